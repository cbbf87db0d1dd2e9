import PyProof.Rows.All
import Wide.All
import OpenK.AllK
import Wide.FinOn
import HandS.ForMost
import HandS.ForExc
import HandS.EndTab
import HandS.Wide
import HandS.WideBits
import HandS.TupAny
import HandS.Style
import HandS.IsInst
import PyProof.CallFns
import HandS.Deep
import HandS.Zip
import KE.GoesMore
import HandS.ExcIs
import HandS.Small
import KE.DataFind
import KE.KExcIs
import HandS.Lambda
import KE.KNestM
import Wide.Loose
import KE.KDflt
import HandS.DictTup
import KE.KDictDisplayH
import KE.KDictCopyH
import HandS.SortInts
import HandS.ExcInit
import PySem.Challenge.RW_roundwarrant_k04_whole_gaps_next_ones_an
section
set_option Elab.async false
set_option linter.all false
set_option maxRecDepth 100000
set_option maxHeartbeats 2000000
/-! Mi: values as trees, lists that change in a store, and what it means that the machine's state stands for them. -/
namespace Mi
open PySem PySem.Spec PyProof.Rows L2

/-- a value: trees; nl, nd: a list, a dict that nobody changes; ref: a list that is changed, by its number; glb: a def or class of the module -/
inductive PV where
  | non | bl (b : Bool) | int (i : Int) | str (s : Str)
  | tup (xs : List PV) | ct (xs : List PV) | nl (xs : List PV) | fl (xs : List PV) | nd (ks : List Key) (vs : List PV)
  | ref (n : Nat) | ty (n : String) | glb (x : Str) | err | lam
  deriving Inhabited
/-- what stands in the store -/
inductive SO where
  | lst (xs : List PV)
  | dT (ks : List (List Int))
  | fz (ks : List (List Int))
abbrev Sto := List SO
abbrev EnP := List (Option PV)
/-- an answer of an expression: a value, an error of a class with its fields, or nothing is said -/
inductive Res (α : Type) where
  | ok (a : α) (S : Sto)
  | exc (c : Str) (fs : List (Str × PV)) (S : Sto)
  | bad
/-- an answer of a block -/
inductive SR where
  | nx (ρ : EnP) (S : Sto)
  | rt (v : PV) (S : Sto)
  | bk (ρ : EnP) (S : Sto)
  | ct (ρ : EnP) (S : Sto)
  | exc (c : Str) (fs : List (Str × PV)) (ρ : EnP) (S : Sto)
  | bad
def Res.bind {α β : Type} (r : Res α) (f : α → Sto → Res β) : Res β :=
  match r with
  | .ok a S => f a S
  | .exc c fs S => .exc c fs S
  | .bad => .bad
@[simp] theorem Res.bind_ok {α β : Type} (a : α) (S : Sto) (f : α → Sto → Res β) : (Res.ok a S).bind f = f a S := rfl
@[simp] theorem Res.bind_exc {α β : Type} (c : Str) (fs : List (Str × PV)) (S : Sto) (f : α → Sto → Res β) : (Res.exc c fs S).bind f = .exc c fs S := rfl
@[simp] theorem Res.bind_bad {α β : Type} (f : α → Sto → Res β) : (Res.bad : Res α).bind f = .bad := rfl

/-- where the store's lists stand, and the lists that are being made (by comprehensions that run) -/
structure Mm where
  ix : List Addr
  ex : List Addr
abbrev Mm.no (m : Mm) (a : Addr) : Prop := a ∉ m.ix ∧ a ∉ m.ex
/-- no table of code objects -/
abbrev NT (o : HO) : Prop := ∀ ps, o ≠ .tbl ps
/-- nothing stands there, but a table perhaps -/
abbrev Nil (H : Hp) (a : Addr) : Prop := ∀ o, H a = some o → ¬ NT o
abbrev H0 : Hp := fun _ => none
/-- what trees stand on -/
structure Emb (m : Mm) (H : Hp) (m' : Mm) (H' : Hp) : Prop where
  get : ∀ (n : Nat) (a : Addr), m.ix[n]? = some a → m'.ix[n]? = some a
  keep : ∀ a o, m.no a → H a = some o → NT o → m'.no a ∧ H' a = some o
  tup : ∀ a xs, H a = some (.tup xs) → H' a = some (.tup xs)
  frz : ∀ a o u, H a = some (.frz o u) → H' a = some (.frz o u)
/-- .. but for a dict that was read over and is free again -/
structure Emw (m : Mm) (H : Hp) (m' : Mm) (H' : Hp) : Prop where
  get : ∀ (n : Nat) (a : Addr), m.ix[n]? = some a → m'.ix[n]? = some a
  keep : ∀ a o, m.no a → H a = some o → NT o → (∀ k, o ≠ .dT k) → m'.no a ∧ H' a = some o
  tup : ∀ a xs, H a = some (.tup xs) → H' a = some (.tup xs)
  frz : ∀ a o u, H a = some (.frz o u) → (∀ k, u ≠ .dT k) → H' a = some (.frz o u)
theorem Emb.emw {m m' : Mm} {H H' : Hp} (s : Emb m H m' H') : Emw m H m' H' := ⟨s.get, fun a o h e n _ => s.keep a o h e n, s.tup, fun a o u e _ => s.frz a o u e⟩
/-- a lambda that a def has got: where it stands, and what must stay while it may be called -/
structure LmI where
  f : Addr
  Φ : Mm → Hp → Prop
  st : ∀ m H m' H', Emw m H m' H' → Φ m H → Φ m' H'
structure Tb where
  tabs : List (Addr × Str)
  lm : Option LmI
  /-- where the fields of the error at hand stand -/
  ed : Option Addr
/-- the module's facts: its written part, what its names hold, the tables of lambdas; the lambda at hand; the error at hand -/
structure Gm where
  K : PySem.W.Frag
  mg : Str → Option Value
  T : Tb
  er : Option Value
abbrev Gm.bare (g : Gm) : Gm := ⟨g.K, g.mg, ⟨g.T.tabs, none, g.T.ed⟩, none⟩
abbrev Bare (g : Gm) : Prop := g.bare = g

mutual
/-- the machine's value v stands for a tree -/
def Rep (g : Gm) (m : Mm) (H : Hp) : PV → V → Prop
  | .non, v => v = .non
  | .bl b, v => v = .bl b
  | .int i, v => v = .int i
  | .str s, v => v = .str s
  | .tup xs, v => ∃ a vs, v = .ref a ∧ H a = some (.tup vs) ∧ RepL g m H xs vs
  | .ct xs, v => ∃ a vs, v = .ref a ∧ SqT g.K H0 a vs ∧ RepL g m H xs vs
  | .nl xs, v => ∃ a vs, v = .ref a ∧ m.no a ∧ H a = some (HO.lst vs) ∧ RepL g m H xs vs
  | .fl xs, v => ∃ a vs, v = .ref a ∧ ((∃ o, H a = some (HO.frz o (HO.lst vs))) ∨ SqL g.K H0 a vs) ∧ RepL g m H xs vs
  | .nd ks xs, v => ∃ a vs, v = .ref a ∧ m.no a ∧ H a = some (.dK (ks.zip vs)) ∧ ks.length = vs.length ∧ RepL g m H xs vs
  | .ref n, v => ∃ a, m.ix[n]? = some a ∧ v = .ref a
  | .ty n, v => v = .ty n
  | .glb x, v => ∃ a, g.mg x = some (.ref a) ∧ v = .ref a
  | .err, v => ∃ a, g.er = some (.ref a) ∧ v = .ref a ∧ ∀ d, g.T.ed = some d → m.no d ∧ ∃ ws, H d = some (.xd ws)
  | .lam, v => ∃ i, g.T.lm = some i ∧ v = .ref i.f ∧ i.Φ m H
def RepL (g : Gm) (m : Mm) (H : Hp) : List PV → List V → Prop
  | [], vs => vs = []
  | x :: xs, vs => ∃ v ws, vs = v :: ws ∧ Rep g m H x v ∧ RepL g m H xs ws
end

/-- what stands behind a stretch of the run: more addresses, new ones; what is no list of the store stays -/
structure Step (m : Mm) (H : Hp) (m' : Mm) (H' : Hp) : Prop where
  pre : ∃ l, m'.ix = m.ix ++ l
  exo : ∀ a ∈ m.ex, a ∈ m'.ex
  exn : ∀ a ∈ m'.ex, a ∉ m.ex → a ∉ m.ix → Nil H a
  new : ∀ a ∈ m'.ix, a ∉ m.ix → Nil H a
  keep : ∀ a o, a ∉ m.ix → H a = some o → NT o → H' a = some o
  tup : ∀ a xs, H a = some (.tup xs) → H' a = some (.tup xs)
  frz : ∀ a o u, H a = some (.frz o u) → H' a = some (.frz o u)
theorem Step.refl (m : Mm) (H : Hp) : Step m H m H := ⟨⟨[], by simp⟩, fun _ h => h, fun a h1 h2 => absurd h1 h2, fun a h1 h2 => absurd h1 h2, fun _ _ _ e _ => e, fun _ _ e => e, fun _ _ _ e => e⟩
theorem Step.old {m m' : Mm} {H H' : Hp} (s : Step m H m' H') {x : Addr} {o : HO} (h : x ∉ m.ix) (e : H x = some o) (n : NT o) : x ∉ m'.ix := fun q => s.new x q h o e n
theorem Step.no {m m' : Mm} {H H' : Hp} (s : Step m H m' H') {x : Addr} {o : HO} (h : m.no x) (e : H x = some o) (n : NT o) : m'.no x := ⟨s.old h.1 e n, fun q => s.exn x q h.2 h.1 o e n⟩
theorem Step.trans {m m1 m2 : Mm} {H H1 H2 : Hp} (a : Step m H m1 H1) (b : Step m1 H1 m2 H2) : Step m H m2 H2 := by
  refine ⟨?_, fun x h => b.exo x (a.exo x h), fun x h1 h2 h3 o e n => ?_, fun x h1 h2 o e n => ?_, fun x o h e n => b.keep x o (a.old h e n) (a.keep x o h e n) n, fun x xs e => b.tup _ _ (a.tup _ _ e), fun x o u e => b.frz _ _ _ (a.frz _ _ _ e)⟩
  · obtain ⟨l, e⟩ := a.pre
    obtain ⟨l', e'⟩ := b.pre
    exact ⟨l ++ l', by rw [e', e, List.append_assoc]⟩
  · by_cases q : x ∈ m1.ex
    · exact a.exn x q h2 h3 o e n
    · by_cases q2 : x ∈ m1.ix
      · exact a.new x q2 h3 o e n
      · exact b.exn x h1 q q2 o (a.keep x o h3 e n) n
  · by_cases q : x ∈ m1.ix
    · exact a.new x q h2 o e n
    · exact b.new x h1 q o (a.keep x o h2 e n) n
theorem Step.get {m m' : Mm} {H H' : Hp} (s : Step m H m' H') {n : Nat} {a : Addr} (h : m.ix[n]? = some a) : m'.ix[n]? = some a := by
  obtain ⟨l, e⟩ := s.pre
  have hl := (List.getElem?_eq_some_iff.mp h).1
  rw [e, List.getElem?_append_left hl]
  exact h
theorem Step.emb {m m' : Mm} {H H' : Hp} (s : Step m H m' H') : Emb m H m' H' := ⟨fun _ _ h => s.get h, fun a o h e n => ⟨s.no h e n, s.keep a o h.1 e n⟩, s.tup, s.frz⟩
theorem nt_lst {vs : List V} : NT (.lst vs) := fun ps q => by cases q
theorem nt_dK {vs : List (Key × V)} : NT (.dK vs) := fun ps q => by cases q

theorem rd_frz {H H' : Hp} {a : Addr} {u : HO} (h1 : H a = some u → H' a = some u) (h2 : ∀ o, H a = some (.frz o u) → H' a = some (.frz o u)) (r : Rd H a u) : Rd H' a u := by
  rcases r with r | ⟨o, r⟩
  · exact .inl (h1 r)
  · exact .inr ⟨o, h2 o r⟩
theorem sqT_emw {g : Gm} {m m' : Mm} {H H' : Hp} {a : Addr} {vs : List V} (s : Emw m H m' H') (h : SqT g.K H a vs) : SqT g.K H' a vs := by
  rcases h with h | h
  · exact .inl (rd_frz (s.tup a vs) (fun o e => s.frz a o _ e (fun k z => by cases z)) h)
  · exact .inr h
theorem sqT_emb {g : Gm} {m m' : Mm} {H H' : Hp} {a : Addr} {vs : List V} (s : Emb m H m' H') (h : SqT g.K H a vs) : SqT g.K H' a vs := sqT_emw s.emw h
theorem sqT_step {g : Gm} {m m' : Mm} {H H' : Hp} {a : Addr} {vs : List V} (s : Step m H m' H') (h : SqT g.K H a vs) : SqT g.K H' a vs := sqT_emb s.emb h
mutual
theorem Rep.emw {g : Gm} {m m' : Mm} {H H' : Hp} (s : Emw m H m' H') : ∀ (x : PV) (v : V), Rep g m H x v → Rep g m' H' x v
  | .non, _, h => h
  | .bl _, _, h => h
  | .int _, _, h => h
  | .str _, _, h => h
  | .tup xs, _, h => by
    unfold Rep at h ⊢
    obtain ⟨a, vs, e, h1, h2⟩ := h
    exact ⟨a, vs, e, s.tup _ _ h1, RepL.emw s xs vs h2⟩
  | .ct xs, _, h => by
    unfold Rep at h ⊢
    obtain ⟨a, vs, e, h1, h2⟩ := h
    exact ⟨a, vs, e, h1, RepL.emw s xs vs h2⟩
  | .nl xs, _, h => by
    unfold Rep at h ⊢
    obtain ⟨a, vs, e, h0, h1, h2⟩ := h
    obtain ⟨k1, k2⟩ := s.keep a _ h0 h1 nt_lst (fun k z => by cases z)
    exact ⟨a, vs, e, k1, k2, RepL.emw s xs vs h2⟩
  | .fl xs, _, h => by
    unfold Rep at h ⊢
    obtain ⟨a, vs, e, h1, h2⟩ := h
    refine ⟨a, vs, e, ?_, RepL.emw s xs vs h2⟩
    rcases h1 with ⟨o, h1⟩ | h1
    · exact .inl ⟨o, s.frz a o _ h1 (fun k z => by cases z)⟩
    · exact .inr h1
  | .nd ks xs, _, h => by
    unfold Rep at h ⊢
    obtain ⟨a, vs, e, h0, h1, h3, h2⟩ := h
    obtain ⟨k1, k2⟩ := s.keep a _ h0 h1 nt_dK (fun k z => by cases z)
    exact ⟨a, vs, e, k1, k2, h3, RepL.emw s xs vs h2⟩
  | .ref n, _, h => by
    unfold Rep at h ⊢
    obtain ⟨a, h1, h2⟩ := h
    exact ⟨a, s.get n a h1, h2⟩
  | .ty _, _, h => h
  | .glb _, _, h => by
    unfold Rep at h ⊢
    exact h
  | .err, _, h => by
    unfold Rep at h ⊢
    obtain ⟨a, h1, h2, h3⟩ := h
    refine ⟨a, h1, h2, fun d e => ?_⟩
    obtain ⟨n, ws, q⟩ := h3 d e
    obtain ⟨k1, k2⟩ := s.keep d _ n q (fun ps z => by cases z) (fun k z => by cases z)
    exact ⟨k1, ws, k2⟩
  | .lam, _, h => by
    unfold Rep at h ⊢
    obtain ⟨i, h1, h2, h3⟩ := h
    exact ⟨i, h1, h2, i.st _ _ _ _ s h3⟩
theorem RepL.emw {g : Gm} {m m' : Mm} {H H' : Hp} (s : Emw m H m' H') : ∀ (xs : List PV) (vs : List V), RepL g m H xs vs → RepL g m' H' xs vs
  | [], _, h => h
  | x :: xs, _, h => by
    unfold RepL at h ⊢
    obtain ⟨v, ws, e, h1, h2⟩ := h
    exact ⟨v, ws, e, Rep.emw s x v h1, RepL.emw s xs ws h2⟩
end
theorem Rep.emb {g : Gm} {m m' : Mm} {H H' : Hp} (s : Emb m H m' H') (x : PV) (v : V) (h : Rep g m H x v) : Rep g m' H' x v := Rep.emw s.emw x v h
theorem RepL.emb {g : Gm} {m m' : Mm} {H H' : Hp} (s : Emb m H m' H') (xs : List PV) (vs : List V) (h : RepL g m H xs vs) : RepL g m' H' xs vs := RepL.emw s.emw xs vs h
theorem Rep.step {g : Gm} {m m' : Mm} {H H' : Hp} (s : Step m H m' H') (x : PV) (v : V) (h : Rep g m H x v) : Rep g m' H' x v := Rep.emb s.emb x v h
theorem RepL.step {g : Gm} {m m' : Mm} {H H' : Hp} (s : Step m H m' H') (xs : List PV) (vs : List V) (h : RepL g m H xs vs) : RepL g m' H' xs vs := RepL.emb s.emb xs vs h
mutual
theorem Rep.up {g : Gm} {m : Mm} {H : Hp} : ∀ (x : PV) (v : V), Rep g.bare m H x v → Rep g m H x v
  | .non, _, h => h
  | .bl _, _, h => h
  | .int _, _, h => h
  | .str _, _, h => h
  | .tup xs, _, h => by
    unfold Rep at h ⊢
    obtain ⟨a, vs, e, h1, h2⟩ := h
    exact ⟨a, vs, e, h1, RepL.up xs vs h2⟩
  | .ct xs, _, h => by
    unfold Rep at h ⊢
    obtain ⟨a, vs, e, h1, h2⟩ := h
    exact ⟨a, vs, e, h1, RepL.up xs vs h2⟩
  | .nl xs, _, h => by
    unfold Rep at h ⊢
    obtain ⟨a, vs, e, h0, h1, h2⟩ := h
    exact ⟨a, vs, e, h0, h1, RepL.up xs vs h2⟩
  | .fl xs, _, h => by
    unfold Rep at h ⊢
    obtain ⟨a, vs, e, h1, h2⟩ := h
    exact ⟨a, vs, e, h1, RepL.up xs vs h2⟩
  | .nd ks xs, _, h => by
    unfold Rep at h ⊢
    obtain ⟨a, vs, e, h0, h1, h3, h2⟩ := h
    exact ⟨a, vs, e, h0, h1, h3, RepL.up xs vs h2⟩
  | .ref n, _, h => by
    unfold Rep at h ⊢
    exact h
  | .ty _, _, h => h
  | .glb _, _, h => by
    unfold Rep at h ⊢
    exact h
  | .err, _, h => by
    unfold Rep at h
    obtain ⟨a, h1, _⟩ := h
    cases h1
  | .lam, _, h => by
    unfold Rep at h
    obtain ⟨i, h1, _⟩ := h
    cases h1
theorem RepL.up {g : Gm} {m : Mm} {H : Hp} : ∀ (xs : List PV) (vs : List V), RepL g.bare m H xs vs → RepL g m H xs vs
  | [], _, h => h
  | x :: xs, _, h => by
    unfold RepL at h ⊢
    obtain ⟨v, ws, e, h1, h2⟩ := h
    exact ⟨v, ws, e, Rep.up x v h1, RepL.up xs ws h2⟩
end
theorem RepL.length {g : Gm} {m : Mm} {H : Hp} : ∀ {xs : List PV} {vs : List V}, RepL g m H xs vs → xs.length = vs.length
  | [], _, h => by unfold RepL at h; subst h; rfl
  | x :: xs, _, h => by
    unfold RepL at h
    obtain ⟨v, ws, rfl, _, h2⟩ := h
    rw [List.length_cons, List.length_cons, RepL.length h2]
theorem RepL.nil {g : Gm} {m : Mm} {H : Hp} : RepL g m H [] [] := rfl
theorem RepL.cons {g : Gm} {m : Mm} {H : Hp} {x : PV} {xs : List PV} {v : V} {vs : List V} (h : Rep g m H x v) (t : RepL g m H xs vs) : RepL g m H (x :: xs) (v :: vs) := by
  unfold RepL
  exact ⟨v, vs, rfl, h, t⟩
theorem RepL.get {g : Gm} {m : Mm} {H : Hp} : ∀ {xs : List PV} {vs : List V} {i : Nat} {x : PV}, RepL g m H xs vs → xs[i]? = some x → ∃ v, vs[i]? = some v ∧ Rep g m H x v
  | [], _, _, _, _, e => by simp at e
  | y :: ys, _, 0, x, h, e => by
    unfold RepL at h
    obtain ⟨v, ws, rfl, h1, _⟩ := h
    simp at e; subst e
    exact ⟨v, rfl, h1⟩
  | y :: ys, _, i + 1, x, h, e => by
    unfold RepL at h
    obtain ⟨v, ws, rfl, _, h2⟩ := h
    obtain ⟨w, e1, e2⟩ := RepL.get (i := i) (x := x) h2 (by simpa using e)
    exact ⟨w, by simpa using e1, e2⟩
theorem RepL.append {g : Gm} {m : Mm} {H : Hp} : ∀ {xs ys : List PV} {vs ws : List V}, RepL g m H xs vs → RepL g m H ys ws → RepL g m H (xs ++ ys) (vs ++ ws)
  | [], _, _, _, h, t => by unfold RepL at h; subst h; exact t
  | x :: xs, ys, _, ws, h, t => by
    unfold RepL at h
    obtain ⟨v, us, rfl, h1, h2⟩ := h
    exact RepL.cons h1 (RepL.append h2 t)
theorem RepL.set {g : Gm} {m : Mm} {H : Hp} {x : PV} {v : V} (hx : Rep g m H x v) : ∀ {xs : List PV} {vs : List V} (i : Nat), RepL g m H xs vs → RepL g m H (xs.set i x) (vs.set i v)
  | [], _, _, h => by unfold RepL at h; subst h; exact RepL.nil
  | y :: ys, _, 0, h => by
    unfold RepL at h
    obtain ⟨u, us, rfl, h1, h2⟩ := h
    exact RepL.cons hx h2
  | y :: ys, _, i + 1, h => by
    unfold RepL at h
    obtain ⟨u, us, rfl, h1, h2⟩ := h
    exact RepL.cons h1 (RepL.set hx i h2)
theorem RepL.take {g : Gm} {m : Mm} {H : Hp} : ∀ {xs : List PV} {vs : List V} (n : Nat), RepL g m H xs vs → RepL g m H (xs.take n) (vs.take n)
  | _, _, 0, _ => by simp only [List.take_zero]; exact RepL.nil
  | [], _, n + 1, h => by unfold RepL at h; subst h; exact RepL.nil
  | y :: ys, _, n + 1, h => by
    unfold RepL at h
    obtain ⟨u, us, rfl, h1, h2⟩ := h
    exact RepL.cons h1 (RepL.take n h2)
theorem RepL.drop {g : Gm} {m : Mm} {H : Hp} : ∀ {xs : List PV} {vs : List V} (n : Nat), RepL g m H xs vs → RepL g m H (xs.drop n) (vs.drop n)
  | _, _, 0, h => h
  | [], _, n + 1, h => by unfold RepL at h; subst h; exact RepL.nil
  | y :: ys, _, n + 1, h => by
    unfold RepL at h
    obtain ⟨u, us, rfl, h1, h2⟩ := h
    exact RepL.drop (xs := ys) (vs := us) n h2

/-- a dict's keys, tuples of ints, all with True -/
def kvT (k : List Int) : List Key × V := (k.map Sum.inl, .bl true)
/-- what is tracked -/
def Tr (u : HO) : Prop := (∃ vs, u = .lst vs) ∨ (∃ k, u = .dT k) ∨ ∃ o k, u = .frz o (.dT k)
theorem Tr.nt {u : HO} (h : Tr u) : NT u := by
  rcases h with ⟨_, rfl⟩ | ⟨_, rfl⟩ | ⟨_, _, rfl⟩ <;> exact fun ps q => by cases q
theorem tr_lst {vs : List V} : Tr (.lst vs) := .inl ⟨vs, rfl⟩
/-- what stands in the store, and in the heap -/
def RSO (g : Gm) (m : Mm) (H : Hp) : SO → HO → Prop
  | .lst xs, u => ∃ vs, u = .lst vs ∧ RepL g m H xs vs
  | .dT ks, u => u = .dT (ks.map kvT)
  | .fz ks, u => ∃ o, u = .frz o (.dT (ks.map kvT))
theorem RSO.tr {g : Gm} {m : Mm} {H : Hp} {o : SO} {u : HO} (h : RSO g m H o u) : Tr u := by
  cases o with
  | lst xs => obtain ⟨vs, rfl, _⟩ := h; exact .inl ⟨vs, rfl⟩
  | dT ks => exact .inr (.inl ⟨_, h⟩)
  | fz ks => obtain ⟨o, rfl⟩ := h; exact .inr (.inr ⟨o, _, rfl⟩)
theorem RSO.emw {g : Gm} {m m' : Mm} {H H' : Hp} {o : SO} {u : HO} (s : Emw m H m' H') (h : RSO g m H o u) : RSO g m' H' o u := by
  cases o with
  | lst xs => obtain ⟨vs, e, r⟩ := h; exact ⟨vs, e, RepL.emw s _ _ r⟩
  | dT ks => exact h
  | fz ks => exact h
theorem RSO.emb {g : Gm} {m m' : Mm} {H H' : Hp} {o : SO} {u : HO} (s : Emb m H m' H') (h : RSO g m H o u) : RSO g m' H' o u := RSO.emw s.emw h
theorem RSO.step {g : Gm} {m m' : Mm} {H H' : Hp} {o : SO} {u : HO} (s : Step m H m' H') (h : RSO g m H o u) : RSO g m' H' o u := RSO.emb s.emb h
/-- the store -/
structure RelS (g : Gm) (m : Mm) (S : Sto) (H : Hp) : Prop where
  len : m.ix.length = S.length
  nd : m.ix.Nodup
  exs : ∀ a ∈ m.ex, a ∉ m.ix ∧ ∃ u, H a = some u ∧ Tr u
  at_ : ∀ (n : Nat) (o : SO), S[n]? = some o → ∃ a u, m.ix[n]? = some a ∧ H a = some u ∧ RSO g.bare m H o u
  tab : LamX.Tabs g.T.tabs H
/-- the names -/
structure RelE (g : Gm) (m : Mm) (H : Hp) (ρ : EnP) (σ : L2.St) : Prop where
  len : ρ.length = σ.length
  at_ : ∀ (i : Nat) (v : PV), ρ[i]? = some (some v) → ∃ w, σ[i]? = some (some w) ∧ Rep g m H v w
theorem RelE.step {g : Gm} {m m' : Mm} {H H' : Hp} {ρ : EnP} {σ : L2.St} (s : Step m H m' H') (r : RelE g m H ρ σ) : RelE g m' H' ρ σ :=
  ⟨r.len, fun i v e => let ⟨w, e1, e2⟩ := r.at_ i v e; ⟨w, e1, Rep.step s _ _ e2⟩⟩
theorem RelE.set {g : Gm} {m : Mm} {H : Hp} {ρ : EnP} {σ : L2.St} {v : PV} {w : V} (r : RelE g m H ρ σ) (i : Nat) (h : Rep g m H v w) : RelE g m H (ρ.set i (some v)) (σ.set i (some w)) := by
  refine ⟨by rw [List.length_set, List.length_set, r.len], fun j u e => ?_⟩
  by_cases hj : i = j
  · subst hj
    by_cases hi : i < ρ.length
    · rw [List.getElem?_set_self hi] at e
      cases e
      exact ⟨w, by rw [List.getElem?_set_self (by rw [← r.len]; exact hi)], h⟩
    · rw [List.getElem?_eq_none (by simpa using hi)] at e; cases e
  · rw [List.getElem?_set_ne hj] at e ⊢
    exact r.at_ j u e

/-- an error: its class by its name, its fields -/
def RepF (g : Gm) (m : Mm) (H : Hp) : List (Str × PV) → List (Str × V) → Prop
  | [], ws => ws = []
  | (f, x) :: r, ws => ∃ v us, ws = (f, v) :: us ∧ Rep g m H x v ∧ RepF g m H r us
def ExcR (g : Gm) (m : Mm) (H : Hp) (c : Str) (fs : List (Str × PV)) (cls : Value) (dd : Option Addr) : Prop :=
  ∃ C, g.mg c = some (.ref C) ∧ cls = .ref C ∧ (fs = [] → dd = none) ∧ (fs ≠ [] → ∃ d ws, dd = some d ∧ H d = some (.xd ws) ∧ RepF g m H fs ws)

/-- what is to be shown of an answer -/
def PostR {α β : Type} (g : Gm) (W : WX) (σ : L2.St) (m : Mm) (H : Hp) (R : Mm → Hp → α → β → Prop) (Q : β → Hp → Prop) : Res α → Prop
  | .ok a S' => ∀ m' H' w, Step m H m' H' → RelS g m' S' H' → R m' H' a w → Q w H'
  | .exc c fs S' => ∀ m' H' cls dd, Step m H m' H' → RelS g m' S' H' → ExcR g m' H' c fs cls dd → W cls dd σ H'
  | .bad => False
abbrev PostV (g : Gm) (W : WX) (σ : L2.St) (m : Mm) (H : Hp) (Q : VK) : Res PV → Prop := PostR g W σ m H (fun m' H' => Rep g m' H') Q
abbrev PostL (g : Gm) (W : WX) (σ : L2.St) (m : Mm) (H : Hp) (Q : List V → Hp → Prop) : Res (List PV) → Prop := PostR g W σ m H (fun m' H' => RepL g m' H') Q
abbrev PostB (g : Gm) (W : WX) (σ : L2.St) (m : Mm) (H : Hp) (Q : Bool → Hp → Prop) : Res Bool → Prop := PostR g W σ m H (fun _ _ b c => b = c) Q
theorem PostR.step {α β : Type} {g : Gm} {W : WX} {σ : L2.St} {m m1 : Mm} {H H1 : Hp} {R : Mm → Hp → α → β → Prop} {Q : β → Hp → Prop} {r : Res α} (s : Step m H m1 H1) (p : PostR g W σ m H R Q r) : PostR g W σ m1 H1 R Q r := by
  cases r with
  | ok a S => exact fun m' H' w s' h1 h2 => p m' H' w (s.trans s') h1 h2
  | exc c fs S => exact fun m' H' cls dd s' h1 h2 => p m' H' cls dd (s.trans s') h1 h2
  | bad => exact p

/-! ### judgements -/
def tr {α β : Type} (g : Gm) (W : WX) (R : Mm → Hp → α → β → Prop) (d : EnP → Sto → Res α) : L2.St → Hp → (β → Hp → Prop) → Prop :=
  fun σ H Q => ∃ ρ S m, RelE g m H ρ σ ∧ RelS g m S H ∧ PostR g W σ m H R Q (d ρ S)
abbrev tv (g : Gm) (W : WX) (d : EnP → Sto → Res PV) : TE := tr g W (fun m' H' => Rep g m' H') d
abbrev tl (g : Gm) (W : WX) (d : EnP → Sto → Res (List PV)) : TA := tr g W (fun m' H' => RepL g m' H') d
abbrev tb (g : Gm) (W : WX) (d : EnP → Sto → Res Bool) : TT := tr g W (fun _ _ b c => b = c) d
abbrev gm (X : Cx) (T : Tb) : Gm := ⟨X.K, X.mg, T, X.A.handled⟩
/-- where one stands -/
structure Ctx (X : Cx) (k : Nat) (W : WX) : Prop where
  room : Room k X.A
  gd : X.A.guards = some []
  calm : X.calm = true
  tk : Takes X W
  po : PassesOwn (model X.prog X.w) X.A X.env X.xe
abbrev CE (X : Cx) (T : Tb) (W : WX) (e : Expr) (d : EnP → Sto → Res PV) : Prop := PE X e (tv (gm X T) W d)
abbrev CA (X : Cx) (T : Tb) (W : WX) (es : List Expr) (d : EnP → Sto → Res (List PV)) : Prop := PA X es (tl (gm X T) W d)
abbrev CT (X : Cx) (T : Tb) (W : WX) (e : Expr) (d : EnP → Sto → Res Bool) : Prop := PT X e (tb (gm X T) W d)
abbrev CW (X : Cx) (T : Tb) (W : WX) (e : Expr) (d : EnP → Sto → Res Bool) : Prop := PW X e (tb (gm X T) W d)
def PostS (g : Gm) (W : WX) (D : Ends) (m : Mm) (H : Hp) : SR → Prop
  | .nx ρ S => ∀ m' H' σ', Step m H m' H' → RelS g m' S H' → RelE g m' H' ρ σ' → D.nx σ' H'
  | .bk ρ S => ∀ m' H' σ', Step m H m' H' → RelS g m' S H' → RelE g m' H' ρ σ' → D.bk σ' H'
  | .ct ρ S => ∀ m' H' σ', Step m H m' H' → RelS g m' S H' → RelE g m' H' ρ σ' → D.ct σ' H'
  | .rt v S => ∀ m' H' w, Step m H m' H' → RelS g m' S H' → Rep g m' H' v w → D.rt w H'
  | .exc c fs ρ S => ∀ m' H' σ' cls dd, Step m H m' H' → RelS g m' S H' → RelE g m' H' ρ σ' → ExcR g m' H' c fs cls dd → W cls dd σ' H'
  | .bad => False
theorem PostS.step {g : Gm} {W : WX} {D : Ends} {m m1 : Mm} {H H1 : Hp} {r : SR} (s : Step m H m1 H1) (p : PostS g W D m H r) : PostS g W D m1 H1 r := by
  cases r with
  | nx ρ S => exact fun m' H' σ' s' h1 h2 => p m' H' σ' (s.trans s') h1 h2
  | bk ρ S => exact fun m' H' σ' s' h1 h2 => p m' H' σ' (s.trans s') h1 h2
  | ct ρ S => exact fun m' H' σ' s' h1 h2 => p m' H' σ' (s.trans s') h1 h2
  | rt v S => exact fun m' H' w s' h1 h2 => p m' H' w (s.trans s') h1 h2
  | exc c fs ρ S => exact fun m' H' σ' cls dd s' h1 h2 h3 => p m' H' σ' cls dd (s.trans s') h1 h2 h3
  | bad => exact p
def ts (g : Gm) (W : WX) (d : EnP → Sto → SR) : TS := fun D σ H => ∃ ρ S m, RelE g m H ρ σ ∧ RelS g m S H ∧ PostS g W D m H (d ρ S)
abbrev CS (X : Cx) (T : Tb) (W : WX) (st : Stmt) (d : EnP → Sto → SR) : Prop := PS X st (ts (gm X T) W d)
abbrev CSs (X : Cx) (T : Tb) (W : WX) (st : List Stmt) (d : EnP → Sto → SR) : Prop := PSs X st (ts (gm X T) W d)

/-! ### weakening -/
theorem pe_imp {X : Cx} {e : Expr} {t t' : TE} (h : PE X e t) (w : ∀ σ H Q, t' σ H Q → t σ H Q) : PE X e t' := ⟨fun pins s σ H Q I q => h.run pins s σ H Q I (w σ H Q q)⟩
theorem pt_imp {X : Cx} {e : Expr} {t t' : TT} (h : PT X e t) (w : ∀ σ H Q, t' σ H Q → t σ H Q) : PT X e t' := ⟨fun pins s σ H Q I q => h.run pins s σ H Q I (w σ H Q q)⟩
theorem pw_imp {X : Cx} {e : Expr} {t t' : TT} (h : PW X e t) (w : ∀ σ H Q, t' σ H Q → t σ H Q) : PW X e t' := ⟨fun wh pins s σ H Q I q => h.run wh pins s σ H Q I (w σ H Q q)⟩
theorem pa_imp {X : Cx} {e : List Expr} {t t' : TA} (h : PA X e t) (w : ∀ σ H Q, t' σ H Q → t σ H Q) : PA X e t' := ⟨fun pos pins s σ H Q I q => h.run pos pins s σ H Q I (w σ H Q q)⟩
theorem ps_imp {X : Cx} {e : Stmt} {t t' : TS} (h : PS X e t) (w : ∀ D σ H, t' D σ H → t D σ H) : PS X e t' := ⟨fun pins s σ H D I q => h.run pins s σ H D I (w D σ H q)⟩
theorem pss_imp {X : Cx} {e : List Stmt} {t t' : TS} (h : PSs X e t) (w : ∀ D σ H, t' D σ H → t D σ H) : PSs X e t' := ⟨fun pins s σ H D I q => h.run pins s σ H D I (w D σ H q)⟩

/-- two readings in a row: from that of the first to that of the rest -/
theorem tr_bind {α β α' β' : Type} {g : Gm} {W : WX} {R : Mm → Hp → α → β → Prop} {R' : Mm → Hp → α' → β' → Prop} {d : EnP → Sto → Res α} {f : α → EnP → Sto → Res α'} {σ : L2.St} {H : Hp} {Q : β' → Hp → Prop} {ρ : EnP} {S : Sto} {m : Mm}
    (hE : RelE g m H ρ σ) (hS : RelS g m S H) (p : PostR g W σ m H R' Q ((d ρ S).bind fun a S1 => f a ρ S1)) {Q1 : β → Hp → Prop}
    (h : ∀ a S1 m1 H1 w, Step m H m1 H1 → RelE g m1 H1 ρ σ → RelS g m1 S1 H1 → R m1 H1 a w → PostR g W σ m1 H1 R' Q (f a ρ S1) → Q1 w H1) : tr g W R d σ H Q1 := by
  refine ⟨ρ, S, m, hE, hS, ?_⟩
  cases hd : d ρ S with
  | ok a S1 =>
    rw [hd] at p
    exact fun m' H' w s h1 h2 => h a S1 m' H' w s (hE.step s) h1 h2 (PostR.step s p)
  | exc c fs S1 =>
    rw [hd] at p
    exact fun m' H' cls dd s h1 h2 => p m' H' cls dd s h1 h2
  | bad =>
    rw [hd] at p
    exact p.elim
/-- an answer that is there at once -/
theorem PostR.here {α β : Type} {g : Gm} {W : WX} {σ : L2.St} {m : Mm} {H : Hp} {R : Mm → Hp → α → β → Prop} {Q : β → Hp → Prop} {a : α} {S : Sto} {w : β} (p : PostR g W σ m H R Q (.ok a S)) (hS : RelS g m S H) (r : R m H a w) : Q w H := p m H w (Step.refl m H) hS r
end Mi
end
section
set_option Elab.async false
set_option linter.all false
set_option maxRecDepth 100000
set_option maxHeartbeats 2000000
namespace Mi
open PySem PySem.Spec PyProof.Rows L2

/-! ### new objects -/
abbrev Mm.push (m : Mm) (p : Addr) : Mm := ⟨m.ix ++ [p], m.ex⟩
section
variable {g : Gm} {m : Mm} {S : Sto} {H : Hp} {p : Addr}
theorem RelS.tracked (h : RelS g m S H) {a : Addr} (ha : a ∈ m.ix) : ∃ u, H a = some u ∧ Tr u := by
  obtain ⟨n, hn, e⟩ := List.getElem_of_mem ha
  have hs : n < S.length := by rw [← h.len]; exact hn
  obtain ⟨b, u, e1, e2, e3⟩ := h.at_ n S[n] (List.getElem?_eq_getElem hs)
  rw [List.getElem?_eq_getElem hn] at e1
  have e4 := Option.some.inj e1
  rw [← e4, e] at e2
  exact ⟨u, e2, e3.tr⟩
theorem RelS.fresh (h : RelS g m S H) (hp : H p = none) : m.no p := by
  refine ⟨fun q => ?_, fun q => by obtain ⟨_, vs, e, _⟩ := h.exs p q; rw [hp] at e; cases e⟩
  obtain ⟨xs, e, _⟩ := h.tracked q
  rw [hp] at e
  cases e
theorem nil_of (hp : H p = none) : Nil H p := fun o e => by rw [hp] at e; cases e
theorem step_new {o : HO} (hp : H p = none) : Step m H m (upd H p o) :=
  ⟨⟨[], by simp⟩, fun _ h => h, fun a h1 h2 => absurd h1 h2, fun a h1 h2 => absurd h1 h2, fun a u _ e _ => by rw [upd_ne (ne_of_none e hp)]; exact e, fun a u e => by rw [upd_ne (ne_of_none e hp)]; exact e, fun a o u e => by rw [upd_ne (ne_of_none e hp)]; exact e⟩
theorem step_alloc {o : HO} (hp : H p = none) : Step m H (m.push p) (upd H p o) :=
  ⟨⟨[p], rfl⟩, fun _ h => h, fun a h1 h2 => absurd h1 h2, fun a h1 h2 => by
      rcases List.mem_append.mp h1 with z | z
      · exact absurd z h2
      · rw [List.mem_singleton.mp z]; exact nil_of hp,
    (step_new hp (m := m)).keep, (step_new hp (m := m)).tup, (step_new hp (m := m)).frz⟩
theorem tabs_new {T : List (Addr × Str)} {o : HO} (hp : H p = none) (t : LamX.Tabs T H) : LamX.Tabs T (upd H p o) := t.ext fun b u e => by rw [upd_ne (ne_of_none e hp)]; exact e
theorem RelS.new {o : HO} (h : RelS g m S H) (hp : H p = none) : RelS g m S (upd H p o) :=
  ⟨h.len, h.nd, fun a ha => ⟨(h.exs a ha).1, (h.exs a ha).2.imp fun vs e => ⟨by rw [upd_ne (ne_of_none e.1 hp)]; exact e.1, e.2⟩⟩, fun n xs e => by
    obtain ⟨a, vs, e1, e2, e3⟩ := h.at_ n xs e
    exact ⟨a, vs, e1, by rw [upd_ne (ne_of_none e2 hp)]; exact e2, RSO.step (step_new hp) e3⟩, tabs_new hp h.tab⟩
theorem RelS.allocO {o : SO} {u : HO} (h : RelS g m S H) (hp : H p = none) (r : RSO g.bare (m.push p) (upd H p u) o u) : RelS g (m.push p) (S ++ [o]) (upd H p u) := by
  refine ⟨by simp [h.len], ?_, fun a ha => ⟨fun q => ?_, (h.exs a ha).2.imp fun vs e => ⟨by rw [upd_ne (ne_of_none e.1 hp)]; exact e.1, e.2⟩⟩, fun n ys e => ?_, tabs_new hp h.tab⟩
  · rw [List.nodup_append]
    refine ⟨h.nd, by simp, fun a ha b hb q => ?_⟩
    rw [List.mem_singleton.mp hb] at q
    exact (h.fresh hp).1 (by rw [← q]; exact ha)
  · rcases List.mem_append.mp q with z | z
    · exact (h.exs a ha).1 z
    · obtain ⟨_, e, _⟩ := (h.exs a ha).2
      rw [List.mem_singleton.mp z, hp] at e
      cases e
  · by_cases hn : n < S.length
    · rw [List.getElem?_append_left hn] at e
      obtain ⟨a, us, e1, e2, e3⟩ := h.at_ n ys e
      exact ⟨a, us, by rw [List.getElem?_append_left (by rw [h.len]; exact hn)]; exact e1, by rw [upd_ne (ne_of_none e2 hp)]; exact e2, RSO.step (step_alloc hp) e3⟩
    · rw [List.getElem?_append_right (by omega)] at e
      have hz : n - S.length = 0 := by
        have z := (List.getElem?_eq_some_iff.mp e).1
        simp at z; omega
      rw [hz] at e
      cases e
      refine ⟨p, u, ?_, upd_same, r⟩
      rw [List.getElem?_append_right (by rw [h.len]; omega), h.len, hz]
      rfl
theorem RelS.alloc {xs : List PV} {vs : List V} (hb : Bare g) (h : RelS g m S H) (hp : H p = none) (r : RepL g m H xs vs) : RelS g (m.push p) (S ++ [SO.lst xs]) (upd H p (HO.lst vs)) :=
  h.allocO hp ⟨vs, rfl, by rw [hb]; exact RepL.step (step_alloc hp) _ _ r⟩
/-- what may be written -/
def Wr (u : HO) : Prop := (∃ vs, u = .lst vs) ∨ ∃ k, u = .dT k
theorem step_writeO {a : Addr} {u0 u1 : HO} (w : Wr u0) (ha : a ∈ m.ix) (h : H a = some u0) : Step m H m (upd H a u1) := by
  refine ⟨⟨[], by simp⟩, fun _ h => h, fun a h1 h2 => absurd h1 h2, fun a h1 h2 => absurd h1 h2, fun b u nb e _ => by rw [upd_ne (fun q : b = a => nb (by rw [q]; exact ha))]; exact e, fun b u e => ?_, fun b o u e => ?_⟩
  · rw [upd_ne (ne_of e h (fun z => by rcases w with ⟨_, rfl⟩ | ⟨_, rfl⟩ <;> cases z))]; exact e
  · rw [upd_ne (ne_of e h (fun z => by rcases w with ⟨_, rfl⟩ | ⟨_, rfl⟩ <;> cases z))]; exact e
theorem tabs_writeO {T : List (Addr × Str)} {a : Addr} {u0 u1 : HO} (w : Tr u0) (h : H a = some u0) (t : LamX.Tabs T H) : LamX.Tabs T (upd H a u1) := fun q hq => by
  obtain ⟨ps, h1, h2, h3⟩ := t q hq
  refine ⟨ps, by rw [upd_ne (ne_of h1 h (fun z => by rcases w with ⟨_, rfl⟩ | ⟨_, rfl⟩ | ⟨_, _, rfl⟩ <;> cases z))]; exact h1, h2, fun pos cv hc => ?_⟩
  obtain ⟨c, e1, e2⟩ := h3 pos cv hc
  exact ⟨c, e1, by rw [upd_ne (ne_of e2 h (fun z => by unfold LamX.CodeO at z; rcases w with ⟨_, rfl⟩ | ⟨_, rfl⟩ | ⟨_, _, rfl⟩ <;> cases z))]; exact e2⟩
theorem RelS.writeO {n : Nat} {a : Addr} {u0 u1 : HO} {o : SO} (h : RelS g m S H) (w : Wr u0) (hn : m.ix[n]? = some a) (hs : n < S.length) (hH : H a = some u0) (r : RSO g.bare m (upd H a u1) o u1) : RelS g m (S.set n o) (upd H a u1) := by
  have ha : a ∈ m.ix := List.mem_of_getElem? hn
  have w' : Tr u0 := w.imp id (fun z => .inl z)
  refine ⟨by rw [List.length_set]; exact h.len, h.nd, fun b hx => ⟨(h.exs b hx).1, (h.exs b hx).2.imp fun vs e => ⟨by rw [upd_ne (fun q : b = a => (h.exs b hx).1 (by rw [q]; exact ha))]; exact e.1, e.2⟩⟩, fun k ys e => ?_, tabs_writeO w' hH h.tab⟩
  by_cases hk : n = k
  · subst hk
    rw [List.getElem?_set_self hs] at e
    cases e
    exact ⟨a, u1, hn, upd_same, r⟩
  · rw [List.getElem?_set_ne hk] at e
    obtain ⟨b, ws, e1, e2, e3⟩ := h.at_ k ys e
    have nb : b ≠ a := fun q => by
      rw [q] at e1
      have l1 := (List.getElem?_eq_some_iff.mp hn).1
      exact hk ((List.getElem?_inj l1 h.nd).mp (hn.trans e1.symm))
    exact ⟨b, ws, e1, by rw [upd_ne nb]; exact e2, RSO.step (step_writeO w ha hH) e3⟩
/-- a list of the store is written -/
theorem step_write {a : Addr} {vs us : List V} (ha : a ∈ m.ix) (h : H a = some (HO.lst vs)) : Step m H m (upd H a (HO.lst us)) :=
  ⟨⟨[], by simp⟩, fun _ h => h, fun a h1 h2 => absurd h1 h2, fun a h1 h2 => absurd h1 h2, fun b u nb e _ => by rw [upd_ne (fun q : b = a => nb (by rw [q]; exact ha))]; exact e,
    fun b u e => by rw [upd_ne (ne_of e h (fun z => by cases z))]; exact e, fun b o u e => by rw [upd_ne (ne_of e h (fun z => by cases z))]; exact e⟩
theorem tabs_write {T : List (Addr × Str)} {a : Addr} {vs us : List V} (h : H a = some (HO.lst vs)) (t : LamX.Tabs T H) : LamX.Tabs T (upd H a (HO.lst us)) := tabs_writeO tr_lst h t
theorem RelS.write {n : Nat} {a : Addr} {xs : List PV} {vs us : List V} (hb : Bare g) (h : RelS g m S H) (hn : m.ix[n]? = some a) (hs : n < S.length) (hH : H a = some (HO.lst vs)) (r : RepL g m H xs us) : RelS g m (S.set n (SO.lst xs)) (upd H a (HO.lst us)) :=
  h.writeO (.inl ⟨vs, rfl⟩) hn hs hH ⟨us, rfl, by rw [hb]; exact RepL.step (step_write (List.mem_of_getElem? hn) hH) _ _ r⟩
end

/-- most items -/
abbrev lim : Nat := 16777216
theorem lim_line {n : Nat} (h : n ≤ lim) : n ≤ sizeLine := by rw [sizeLine_eq]; exact h
def mkTup (xs : List PV) (S : Sto) : Res PV := if xs.length ≤ lim then .ok (.tup xs) S else .bad
/-- a new list: one of the store (mt), or one that nobody will change -/
def mkLst (mt : Bool) (xs : List PV) (S : Sto) : Res PV := if xs.length ≤ lim then (if mt = true then .ok (.ref S.length) (S ++ [SO.lst xs]) else .ok (.nl xs) S) else .bad
section
variable {g : Gm} {W : WX} {σ : L2.St} {m : Mm} {S : Sto} {H : Hp} {Q : VK} {xs : List PV} {vs : List V}
theorem new_tup (hS : RelS g m S H) (r : RepL g m H xs vs) (p : PostV g W σ m H Q (mkTup xs S)) : vs.length ≤ sizeLine ∧ ∀ p, H p = none → Q (.ref p) (upd H p (HO.tup vs)) := by
  unfold mkTup at p
  split at p
  · rename_i h
    refine ⟨by rw [← r.length]; exact lim_line h, fun a ha => p m _ _ (step_new ha) (hS.new ha) ?_⟩
    show Rep g m _ (.tup xs) _
    unfold Rep
    exact ⟨a, vs, rfl, upd_same, RepL.step (step_new ha) _ _ r⟩
  · exact p.elim
theorem new_lst {mt : Bool} (hb : mt = true → Bare g) (hS : RelS g m S H) (r : RepL g m H xs vs) (p : PostV g W σ m H Q (mkLst mt xs S)) : vs.length ≤ sizeLine ∧ ∀ p, H p = none → Q (.ref p) (upd H p (HO.lst vs)) := by
  unfold mkLst at p
  split at p
  · rename_i h
    refine ⟨by rw [← r.length]; exact lim_line h, fun a ha => ?_⟩
    cases mt with
    | true =>
      refine p (m.push a) _ _ (step_alloc ha) (hS.alloc (hb rfl) ha r) ?_
      show Rep g _ _ (.ref S.length) _
      unfold Rep
      exact ⟨a, by rw [List.getElem?_append_right (by rw [hS.len]; omega), hS.len]; simp, rfl⟩
    | false =>
      refine p m _ _ (step_new ha) (hS.new ha) ?_
      show Rep g _ _ (.nl xs) _
      unfold Rep
      exact ⟨a, vs, rfl, hS.fresh ha, upd_same, RepL.step (step_new ha) _ _ r⟩
  · exact p.elim
end

/-! ### lists and tuples that are read -/
/-- the items of a list that stands in the heap by itself -/
def lstT : PV → Sto → Option (List PV)
  | .nl xs, _ => some xs
  | .ref n, S => match S[n]? with
    | some (SO.lst xs) => some xs
    | _ => none
  | _, _ => none
def lstOf : PV → Sto → Option (List PV)
  | .fl xs, _ => some xs
  | v, S => lstT v S
def tupOf : PV → Option (List PV)
  | .tup xs => some xs
  | .ct xs => some xs
  | _ => none
def seqOf (v : PV) (S : Sto) : Option (List PV) := match tupOf v with
  | some xs => some xs
  | none => lstOf v S
section
variable {g : Gm} {m : Mm} {S : Sto} {H : Hp} {x : PV} {v : V} {xs : List PV}
theorem lstT_rep (hS : RelS g m S H) (r : Rep g m H x v) (h : lstT x S = some xs) : ∃ a vs, v = .ref a ∧ H a = some (HO.lst vs) ∧ RepL g m H xs vs := by
  cases x with
  | nl ys =>
    unfold lstT at h
    cases h
    unfold Rep at r
    obtain ⟨a, vs, e, _, h1, h2⟩ := r
    exact ⟨a, vs, e, h1, h2⟩
  | ref n =>
    simp only [lstT] at h
    unfold Rep at r
    obtain ⟨a, e1, e2⟩ := r
    cases q : S[n]? with
    | none => rw [q] at h; cases h
    | some o =>
      cases o with
      | lst ys =>
        rw [q] at h
        have h : some ys = some xs := h
        obtain ⟨b, u, f1, f2, vs, rfl, f3⟩ := hS.at_ n _ q
        cases h
        rw [e1] at f1; cases f1
        exact ⟨a, vs, e2, f2, RepL.up _ _ f3⟩
      | dT ks => rw [q] at h; cases h
      | fz ks => rw [q] at h; cases h
  | _ => unfold lstT at h; cases h
theorem lstOf_rep (hS : RelS g m S H) (r : Rep g m H x v) (h : lstOf x S = some xs) : ∃ a vs, v = .ref a ∧ SqL g.K H a vs ∧ RepL g m H xs vs := by
  have other : lstT x S = some xs → ∃ a vs, v = .ref a ∧ SqL g.K H a vs ∧ RepL g m H xs vs := fun h => by
    obtain ⟨a, vs, e, h1, h2⟩ := lstT_rep hS r h
    exact ⟨a, vs, e, .inl (.inl h1), h2⟩
  cases x with
  | fl ys =>
    unfold lstOf at h
    cases h
    unfold Rep at r
    obtain ⟨a, vs, e, h1, h2⟩ := r
    refine ⟨a, vs, e, ?_, h2⟩
    rcases h1 with ⟨o, h1⟩ | h1
    · exact .inl (.inr ⟨o, h1⟩)
    · rcases h1 with h1 | h1
      · rcases h1 with h1 | ⟨o, h1⟩ <;> cases h1
      · exact .inr h1
  | _ => exact other h
theorem tup_rep (r : Rep g m H (.tup xs) v) : ∃ a vs, v = .ref a ∧ SqT g.K H a vs ∧ RepL g m H xs vs := by
  unfold Rep at r
  obtain ⟨a, vs, e, h, k⟩ := r
  exact ⟨a, vs, e, .inl (.inl h), k⟩
theorem tup_repS (r : Rep g m H (.tup xs) v) : ∃ a vs, v = .ref a ∧ H a = some (.tup vs) ∧ RepL g m H xs vs := by
  unfold Rep at r
  exact r
theorem sqT_h0 {K : PySem.W.Frag} {H : Hp} {a : Addr} {vs : List V} (h : SqT K H0 a vs) : SqT K H a vs := by
  rcases h with h1 | h1
  · rcases h1 with h1 | ⟨o, h1⟩ <;> cases h1
  · exact .inr h1
theorem ct_rep (r : Rep g m H (.ct xs) v) : ∃ a vs, v = .ref a ∧ SqT g.K H a vs ∧ RepL g m H xs vs := by
  unfold Rep at r
  obtain ⟨a, vs, e, h, k⟩ := r
  exact ⟨a, vs, e, sqT_h0 h, k⟩
theorem seqOf_rep (hS : RelS g m S H) (r : Rep g m H x v) (h : seqOf x S = some xs) : ∃ a vs, v = .ref a ∧ (SqL g.K H a vs ∨ SqT g.K H a vs) ∧ RepL g m H xs vs := by
  cases x with
  | tup ys =>
    unfold seqOf at h
    have h : some ys = some xs := h
    cases h
    obtain ⟨a, vs, e, h1, h2⟩ := tup_rep r
    exact ⟨a, vs, e, .inr h1, h2⟩
  | ct ys =>
    unfold seqOf at h
    have h : some ys = some xs := h
    cases h
    obtain ⟨a, vs, e, h1, h2⟩ := ct_rep r
    exact ⟨a, vs, e, .inr h1, h2⟩
  | _ =>
    obtain ⟨a, vs, e, h1, h2⟩ := lstOf_rep hS r h
    exact ⟨a, vs, e, .inl h1, h2⟩
theorem rep_int {i : Int} (r : Rep g m H (.int i) v) : v = .int i := by unfold Rep at r; exact r
theorem rep_bl {b : Bool} (r : Rep g m H (.bl b) v) : v = .bl b := by unfold Rep at r; exact r
theorem rep_str {b : Str} (r : Rep g m H (.str b) v) : v = .str b := by unfold Rep at r; exact r
theorem rep_non (r : Rep g m H .non v) : v = .non := by unfold Rep at r; exact r
theorem rep_ty {n : String} (r : Rep g m H (.ty n) v) : v = .ty n := by unfold Rep at r; exact r
theorem mk_int (i : Int) : Rep g m H (.int i) (.int i) := by unfold Rep; rfl
theorem mk_bl (i : Bool) : Rep g m H (.bl i) (.bl i) := by unfold Rep; rfl
theorem mk_str (i : Str) : Rep g m H (.str i) (.str i) := by unfold Rep; rfl
theorem mk_non : Rep g m H .non .non := by unfold Rep; rfl
theorem mk_ty (n : String) : Rep g m H (.ty n) (.ty n) := by unfold Rep; rfl
end

/-! ### names, constants -/
def dC (v : PV) : EnP → Sto → Res PV := fun _ S => .ok v S
def dV (i : Nat) : EnP → Sto → Res PV := fun ρ S => match ρ[i]? with
  | some (some v) => .ok v S
  | _ => .bad
section
variable {X : Cx} {T : Tb} {W : WX} {pos : Pos}
theorem ce_c {e : Expr} {v : V} {x : PV} (h : PE X e (tC v)) (r : ∀ m H, Rep (gm X T) m H x v) : CE X T W e (dC x) :=
  pe_imp h fun σ H Q ⟨ρ, S, m, _, hS, p⟩ => p m H v (Step.refl m H) hS (r m H)
theorem ce_int {i : Int} {j : Nat} : CE X T W (.Constant (.int i) j pos) (dC (.int i)) := ce_c pe_int fun _ _ => mk_int i
theorem ce_bl {i : Bool} {j : Nat} : CE X T W (.Constant (.bool i) j pos) (dC (.bl i)) := ce_c pe_bl fun _ _ => mk_bl i
theorem ce_str {i : Str} {j : Nat} : CE X T W (.Constant (.str i) j pos) (dC (.str i)) := ce_c pe_str fun _ _ => mk_str i
theorem ce_non {j : Nat} : CE X T W (.Constant .none j pos) (dC .non) := ce_c pe_non fun _ _ => mk_non
theorem ce_v (i : Nat) {x : Str} (hN : X.N[i]? = some x := by rfl) (hv : Vis X.env.scope x := by first | exact Or.inl rfl | exact Or.inr (Or.inl rfl) | exact Or.inr (Or.inr rfl)) (hd : (x == ("__debug__" : Str)) = false := by decide)
    (hcd : (x == ("__classdict__" : Str)) = false := by decide) : CE X T W (.Name x pos) (dV i) :=
  pe_imp (pe_var hN hv hd hcd) fun σ H Q ⟨ρ, S, m, hE, hS, p⟩ => by
    unfold dV at p
    split at p
    · rename_i v e
      obtain ⟨w, e1, e2⟩ := hE.at_ i v e
      exact ⟨w, e1, p m H w (Step.refl m H) hS e2⟩
    · exact p.elim
theorem ce_gint {x : Str} {i : Int} {t : Tok} (hg : Gl X x) (hm : X.mg x = some (.int i t)) (hd : (x == ("__debug__" : Str)) = false := by decide) : CE X T W (.Name x pos) (dC (.int i)) := ce_c (v := .int i) (pe_glob hg hm ⟨t, rfl⟩ hd) fun _ _ => mk_int i
theorem ce_gstr {x : Str} {i : Str} {t : Tok} (hg : Gl X x) (hm : X.mg x = some (.str i t)) (hd : (x == ("__debug__" : Str)) = false := by decide) : CE X T W (.Name x pos) (dC (.str i)) := ce_c (v := .str i) (pe_glob hg hm ⟨t, rfl⟩ hd) fun _ _ => mk_str i
theorem ce_gfn {x : Str} {f : Addr} (hg : Gl X x) (hm : X.mg x = some (.ref f)) (hd : (x == ("__debug__" : Str)) = false := by decide) : CE X T W (.Name x pos) (dC (.glb x)) :=
  ce_c (v := .ref f) (pe_glob hg hm rfl hd) fun _ _ => by unfold Rep; exact ⟨f, hm, rfl⟩
theorem ce_bty {x : Str} {n : String} (hg : Gl X x) (hm : X.mg x = none) (hv : bootBuiltins x = some (.type n)) (hn : x ≠ "__name__" := by decide) (hd : (x == ("__debug__" : Str)) = false := by decide) : CE X T W (.Name x pos) (dC (.ty n)) :=
  ce_c (v := .ty n) (pe_bltn hg hm hv rfl hn hd) fun _ _ => mk_ty n
end

/-! ### two operands -/
def dBin (f : PV → PV → Sto → Res PV) (da db : EnP → Sto → Res PV) : EnP → Sto → Res PV := fun ρ S => (da ρ S).bind fun x S1 => (db ρ S1).bind fun y S2 => f x y S2
def dUn (f : PV → Sto → Res PV) (da : EnP → Sto → Res PV) : EnP → Sto → Res PV := fun ρ S => (da ρ S).bind fun x S1 => f x S1
/-- an operation on trees is sound for one on values -/
def Snd (g : Gm) (r : R2) (f : PV → PV → Sto → Res PV) : Prop :=
  ∀ (W : WX) (σ : L2.St) (m : Mm) (S : Sto) (H : Hp) (x y : PV) (v u : V) (Q : VK), RelS g m S H → Rep g m H x v → Rep g m H y u → PostV g W σ m H Q (f x y S) → r v u H Q
def Snd1 (g : Gm) (r : V → Hp → VK → Prop) (f : PV → Sto → Res PV) : Prop :=
  ∀ (W : WX) (σ : L2.St) (m : Mm) (S : Sto) (H : Hp) (x : PV) (v : V) (Q : VK), RelS g m S H → Rep g m H x v → PostV g W σ m H Q (f x S) → r v H Q
section
variable {X : Cx} {T : Tb} {W : WX} {pos : Pos} {a b : Expr} {da db : EnP → Sto → Res PV} {f : PV → PV → Sto → Res PV} {r : R2}
theorem two_of (hs : Snd (gm X T) r f) {σ : L2.St} {H : Hp} {Q : VK} (h : tv (gm X T) W (dBin f da db) σ H Q) : tOp r (tv (gm X T) W da) (tv (gm X T) W db) σ H Q := by
  obtain ⟨ρ, S, m, hE, hS, p⟩ := h
  exact tr_bind (f := fun a ρ S1 => (db ρ S1).bind fun y S2 => f a y S2) hE hS p fun x S1 m1 H1 w s1 hE1 hS1 hr1 p1 => tr_bind (f := fun b ρ S2 => f x b S2) hE1 hS1 p1 fun y S2 m2 H2 w2 s2 hE2 hS2 hr2 p2 => hs W σ m2 S2 H2 x y w w2 Q hS2 (hr1.step s2) hr2 p2
theorem ce_bin {op : Operator} (ho : OpR X (binaryOp op) r) (hs : Snd (gm X T) r f) (ha : CE X T W a da) (hb : CE X T W b db) : CE X T W (.BinOp a op b pos) (dBin f da db) :=
  pe_imp (pe_op ho ha hb) fun σ H Q h => two_of hs h
theorem ce_cmp {op : CmpOp} (ho : OpR X (compareOp op) r) (hs : Snd (gm X T) r f) (ha : CE X T W a da) (hb : CE X T W b db) (hm : behindInMarks op b = false) : CE X T W (.Compare a [op] [b] pos) (dBin f da db) :=
  pe_imp (pe_cmpR ho ha hb hm) fun σ H Q h => two_of hs h
/-- a value that must be a bool -/
def asB : Res PV → Res Bool
  | .ok (.bl b) S => .ok b S
  | .exc c fs S => .exc c fs S
  | _ => .bad
theorem asB_post {g : Gm} {σ : L2.St} {m : Mm} {H : Hp} {Q : Bool → Hp → Prop} {r : Res PV} (p : PostB g W σ m H Q (asB r)) : PostV g W σ m H (fun x H' => ∃ k, x = .bl k ∧ Q k H') r := by
  cases r with
  | ok v S =>
    cases v with
    | bl b => exact fun m' H' w s h1 h2 => ⟨b, rep_bl h2, p m' H' b s h1 rfl⟩
    | _ => exact p.elim
  | exc c fs S => exact p
  | bad => exact p
def dB (d : EnP → Sto → Res PV) : EnP → Sto → Res Bool := fun ρ S => asB (d ρ S)
theorem ct_cmp {op : CmpOp} (ho : OpR X (compareOp op) r) (hs : Snd (gm X T) r f) (ha : CE X T W a da) (hb : CE X T W b db) (hm : behindInMarks op b = false) : CT X T W (.Compare a [op] [b] pos) (dB (dBin f da db)) :=
  pt_imp (pt_cmpR ho ha hb hm) fun σ H Q ⟨ρ, S, m, hE, hS, p⟩ => two_of hs ⟨ρ, S, m, hE, hS, asB_post p⟩
theorem ce_un {op : UnaryOp} {r : V → Hp → VK → Prop} {f : PV → Sto → Res PV} (ho : UnR X (unaryOp op) r) (hs : Snd1 (gm X T) r f) (ha : CE X T W a da) : CE X T W (.UnaryOp op a pos) (dUn f da) :=
  pe_imp (pe_un ho ha) fun σ H Q ⟨ρ, S, m, hE, hS, p⟩ => tr_bind (f := fun x ρ S1 => f x S1) hE hS p fun x S1 m1 H1 w s1 hE1 hS1 hr1 p1 => hs W σ m1 S1 H1 x w Q hS1 hr1 p1
end
/-! ### arithmetic -/
def fAdd (mt : Bool) : PV → PV → Sto → Res PV
  | .int i, .int j, S => .ok (.int (i + j)) S
  | .str a, .str b, S => if a.length + b.length ≤ lim then .ok (.str (a ++ b)) S else .bad
  | .tup xs, .tup ys, S => mkTup (xs ++ ys) S
  | x, y, S => match lstT x S, lstT y S with
    | some xs, some ys => mkLst mt (xs ++ ys) S
    | _, _ => .bad
def fSub : PV → PV → Sto → Res PV
  | .int i, .int j, S => .ok (.int (i - j)) S
  | _, _, _ => .bad
def fMul (mt : Bool) : PV → PV → Sto → Res PV
  | .int i, .int j, S => if i.natAbs.log2 + j.natAbs.log2 < 100000000 then .ok (.int (i * j)) S else .bad
  | x, .int k, S => match lstT x S with
    | some xs => if 0 ≤ k ∧ k ≤ 1000 ∧ xs.length ≤ 1000 then mkLst mt (List.replicate k.toNat xs).flatten S else .bad
    | none => .bad
  | _, _, _ => .bad
def fDiv : PV → PV → Sto → Res PV
  | .int i, .int j, S => if j ≠ 0 ∧ j.natAbs.log2 < 9000 then .ok (.int (i.fdiv j)) S else .bad
  | _, _, _ => .bad
def fMod : PV → PV → Sto → Res PV
  | .int i, .int j, S => if j ≠ 0 then .ok (.int (i.fmod j)) S else .bad
  | _, _, _ => .bad
def fPow : PV → PV → Sto → Res PV
  | .int i, .int j, S => if 0 ≤ j ∧ j ≤ 1000000 ∧ i.natAbs < 2 ^ 64 then .ok (.int (i ^ j.toNat)) S else .bad
  | _, _, _ => .bad
def rAddM (K : PySem.W.Frag) : R2 := fun x y H Q => (rI0 (fun i j => .int (i + j)) x y H Q ∨ (∃ i j, x = .str i ∧ y = .str j ∧ i.length + j.length ≤ sizeLine ∧ Q (.str (i ++ j)) H)) ∨ (rCatA K x y H Q ∨ rCat x y H Q)
section
variable {X : Cx} {T : Tb}
theorem op_addM : OpR X (binaryOp .Add) (rAddM X.K) := (op_add.or op_add_str).or (op_catA.or op_cat)
theorem sn_add (mt : Bool) (hb : mt = true → Bare (gm X T)) : Snd (gm X T) (rAddM X.K) (fAdd mt) := by
  intro W σ m S H x y v u Q hS rx ry p
  have lists : PostV (gm X T) W σ m H Q (match lstT x S, lstT y S with | some xs, some ys => mkLst mt (xs ++ ys) S | _, _ => .bad) → rAddM X.K v u H Q := fun p => by
    cases e1 : lstT x S with
    | none => rw [e1] at p; exact p.elim
    | some xs =>
      cases e2 : lstT y S with
      | none => rw [e1, e2] at p; exact p.elim
      | some ys =>
        rw [e1, e2] at p
        obtain ⟨a, vs, rfl, h1, r1⟩ := lstT_rep hS rx e1
        obtain ⟨b, us, rfl, h2, r2⟩ := lstT_rep hS ry e2
        obtain ⟨z, q⟩ := new_lst hb hS (r1.append r2) p
        rw [List.length_append] at z
        exact .inr (.inr ⟨a, b, vs, us, rfl, rfl, h1, h2, z, q⟩)
  unfold fAdd at p
  split at p
  · cases rep_int rx
    cases rep_int ry
    exact .inl (.inl ⟨_, _, rfl, rfl, p.here hS (mk_int _)⟩)
  · cases rep_str rx
    cases rep_str ry
    split at p
    · rename_i h
      exact .inl (.inr ⟨_, _, rfl, rfl, lim_line h, p.here hS (mk_str _)⟩)
    · exact p.elim
  · rename_i xs ys
    obtain ⟨a, vs, rfl, h1, r1⟩ := tup_rep rx
    obtain ⟨b, us, rfl, h2, r2⟩ := tup_rep ry
    obtain ⟨z, q⟩ := new_tup hS (r1.append r2) p
    rw [List.length_append] at z
    have hz : xs.length + ys.length ≤ lim := by
      have e : vs.length + us.length ≤ sizeLine := z
      rw [sizeLine_eq, ← r1.length, ← r2.length] at e
      exact e
    have pt : ∀ w, Rep (gm X T) m H (.tup (xs ++ ys)) w → Q w H := fun w r => by
      unfold mkTup at p
      rw [if_pos (by rw [List.length_append]; exact hz)] at p
      exact p.here hS r
    refine .inr (.inl ⟨a, b, vs, us, rfl, rfl, h1, h2, z, fun e => ?_, fun _ e => ?_, fun _ _ => q⟩)
    · have e0 : xs = [] := by have := r1.length; rw [e] at this; exact List.length_eq_zero_iff.mp (by simpa using this)
      exact pt _ (by rw [e0]; exact ry)
    · have e0 : ys = [] := by have := r2.length; rw [e] at this; exact List.length_eq_zero_iff.mp (by simpa using this)
      exact pt _ (by rw [e0, List.append_nil]; exact rx)
  · exact lists p
theorem sn_sub : Snd (gm X T) (rI0 fun i j => .int (i - j)) fSub := by
  intro W σ m S H x y v u Q hS rx ry p
  unfold fSub at p
  split at p
  · cases rep_int rx
    cases rep_int ry
    exact ⟨_, _, rfl, rfl, p.here hS (mk_int _)⟩
  · exact p.elim
theorem mulX_of {i j : Int} (h : i.natAbs.log2 + j.natAbs.log2 < 100000000) : CMulX i j := by
  have b : ∀ x : Int, Builtin.Int.intBits x ≤ x.natAbs.log2 + 1 := fun x => by
    unfold Builtin.Int.intBits
    split <;> omega
  have h1 := b i
  have h2 := b j
  unfold CMulX
  omega
def rMulM : R2 := fun x y H Q => rI CMulX (fun i j => .int (i * j)) x y H Q ∨ rRep x y H Q
theorem op_mulM : OpR X (binaryOp .Mult) rMulM := op_mulX.or op_rep
theorem flat_len (k : Nat) (xs : List PV) : (List.replicate k xs).flatten.length = k * xs.length := by
  induction k with
  | zero => simp
  | succ k ih => rw [List.replicate_succ, List.flatten_cons, List.length_append, ih, Nat.succ_mul, Nat.add_comm]
theorem flat_rep {g : Gm} {m : Mm} {H : Hp} {xs : List PV} {vs : List V} (r : RepL g m H xs vs) : ∀ k : Nat, RepL g m H (List.replicate k xs).flatten (List.replicate k vs).flatten
  | 0 => RepL.nil
  | k + 1 => by
    rw [List.replicate_succ, List.flatten_cons, List.replicate_succ, List.flatten_cons]
    exact r.append (flat_rep r k)
theorem sn_mul (mt : Bool) (hb : mt = true → Bare (gm X T)) : Snd (gm X T) rMulM (fMul mt) := by
  intro W σ m S H x y v u Q hS rx ry p
  unfold fMul at p
  split at p
  · cases rep_int rx
    cases rep_int ry
    split at p
    · rename_i h
      exact .inl ⟨_, _, rfl, rfl, mulX_of h, p.here hS (mk_int _)⟩
    · exact p.elim
  · cases rep_int ry
    rename_i k _
    cases e1 : lstT x S with
    | none => rw [e1] at p; exact p.elim
    | some xs =>
      rw [e1] at p
      obtain ⟨a, vs, rfl, h1, r1⟩ := lstT_rep hS rx e1
      have p : PostV (gm X T) W σ m H Q (if 0 ≤ k ∧ k ≤ 1000 ∧ xs.length ≤ 1000 then mkLst mt (List.replicate k.toNat xs).flatten S else .bad) := p
      split at p
      · rename_i h
        obtain ⟨z1, z2, z3⟩ := h
        obtain ⟨z, q⟩ := new_lst hb hS (flat_rep r1 k.toNat) p
        refine .inr ⟨a, k, vs, rfl, rfl, h1, by omega, by omega, ?_, q⟩
        rw [sizeLine_eq, ← r1.length]
        have := Nat.mul_le_mul z3 (show k.toNat ≤ 1000 by omega)
        omega
      · exact p.elim
  · exact p.elim
theorem op_fdivA : OpR X (binaryOp .FloorDiv) (rI (fun _ j => j ≠ 0 ∧ j.natAbs.log2 < 9000) fun i j => .int (i.fdiv j)) := opI fun _ _ _ _ _ _ _ hc q => floordiv_int hc.1 q (.inl (PyProof.noPylong_of_log2 hc.2))
theorem sn_div : Snd (gm X T) (rI (fun _ j => j ≠ 0 ∧ j.natAbs.log2 < 9000) fun i j => .int (i.fdiv j)) fDiv := by
  intro W σ m S H x y v u Q hS rx ry p
  unfold fDiv at p
  split at p
  · cases rep_int rx
    cases rep_int ry
    split at p
    · rename_i h
      exact ⟨_, _, rfl, rfl, h, p.here hS (mk_int _)⟩
    · exact p.elim
  · exact p.elim
theorem sn_mod : Snd (gm X T) (rI (fun _ j => j ≠ 0) fun i j => .int (i.fmod j)) fMod := by
  intro W σ m S H x y v u Q hS rx ry p
  unfold fMod at p
  split at p
  · cases rep_int rx
    cases rep_int ry
    split at p
    · rename_i h
      exact ⟨_, _, rfl, rfl, h, p.here hS (mk_int _)⟩
    · exact p.elim
  · exact p.elim
theorem sn_pow : Snd (gm X T) (rI CPow fun i j => .int (i ^ j.toNat)) fPow := by
  intro W σ m S H x y v u Q hS rx ry p
  unfold fPow at p
  split at p
  · cases rep_int rx
    cases rep_int ry
    split at p
    · rename_i h
      exact ⟨_, _, rfl, rfl, h, p.here hS (mk_int _)⟩
    · exact p.elim
  · exact p.elim
def fNeg : PV → Sto → Res PV
  | .int i, S => .ok (.int (-i)) S
  | _, _ => .bad
theorem sn_neg : Snd1 (gm X T) (rU fun i => .int (-i)) fNeg := by
  intro W σ m S H x v Q hS rx p
  unfold fNeg at p
  split at p
  · cases rep_int rx
    exact ⟨_, rfl, p.here hS (mk_int _)⟩
  · exact p.elim
end
end Mi
end
section
set_option Elab.async false
set_option linter.all false
set_option maxRecDepth 100000
set_option maxHeartbeats 2000000
namespace Mi
open PySem PySem.Spec PyProof.Rows L2

/-! ### == and repr, by data -/
mutual
def toD : PV → Option PyData
  | .non => some .none
  | .bl b => some (.bool b)
  | .int i => some (.int i)
  | .str s => some (.str s)
  | .tup xs => (toDL xs).map PyData.tuple
  | .ct xs => (toDL xs).map PyData.tuple
  | .nl xs => (toDL xs).map PyData.list
  | .fl xs => (toDL xs).map PyData.list
  | _ => none
def toDL : List PV → Option (List PyData)
  | [] => some []
  | x :: xs => match toD x, toDL xs with
    | some d, some ds => some (d :: ds)
    | _, _ => none
end
def toDS : PV → Sto → Option PyData
  | .ref n, S => match S[n]? with
    | some (SO.lst xs) => (toDL xs).map PyData.list
    | _ => none
  | v, _ => toD v
section
variable {g : Gm} {m : Mm} {S : Sto} {H : Hp}
mutual
theorem dp_of : ∀ (x : PV) (v : V) (d : PyData), Rep g m H x v → toD x = some d → Dp g.K H v d
  | .non, v, d, r, e => by unfold toD at e; cases e; rw [rep_non r]; exact .non
  | .bl b, v, d, r, e => by unfold toD at e; cases e; rw [rep_bl r]; exact .bl b
  | .int i, v, d, r, e => by unfold toD at e; cases e; rw [rep_int r]; exact .int i
  | .str s, v, d, r, e => by unfold toD at e; cases e; rw [rep_str r]; exact .str s
  | .tup xs, v, d, r, e => by
    unfold toD at e
    obtain ⟨a, vs, rfl, h1, h2⟩ := tup_rep r
    cases q : toDL xs with
    | none => rw [q] at e; cases e
    | some ds => rw [q] at e; cases e; exact .tup h1 (dpL_of xs vs ds h2 q)
  | .ct xs, v, d, r, e => by
    unfold toD at e
    obtain ⟨a, vs, rfl, h1, h2⟩ := ct_rep r
    cases q : toDL xs with
    | none => rw [q] at e; cases e
    | some ds => rw [q] at e; cases e; exact .tup h1 (dpL_of xs vs ds h2 q)
  | .nl xs, v, d, r, e => by
    unfold toD at e
    unfold Rep at r
    obtain ⟨a, vs, rfl, _, h1, h2⟩ := r
    cases q : toDL xs with
    | none => rw [q] at e; cases e
    | some ds => rw [q] at e; cases e; exact .lst (.inl (.inl h1)) (dpL_of xs vs ds h2 q)
  | .fl xs, v, d, r, e => by
    unfold toD at e
    unfold Rep at r
    obtain ⟨a, vs, rfl, h1, h2⟩ := r
    cases q : toDL xs with
    | none => rw [q] at e; cases e
    | some ds =>
      rw [q] at e
      cases e
      refine .lst ?_ (dpL_of xs vs ds h2 q)
      rcases h1 with ⟨o, h1⟩ | h1
      · exact .inl (.inr ⟨o, h1⟩)
      · rcases h1 with h1 | h1
        · rcases h1 with h1 | ⟨o, h1⟩ <;> cases h1
        · exact .inr h1
  | .nd _ _, _, _, _, e => by unfold toD at e; cases e
  | .ref _, _, _, _, e => by unfold toD at e; cases e
  | .ty _, _, _, _, e => by unfold toD at e; cases e
  | .glb _, _, _, _, e => by unfold toD at e; cases e
  | .err, _, _, _, e => by unfold toD at e; cases e
  | .lam, _, _, _, e => by unfold toD at e; cases e
theorem dpL_of : ∀ (xs : List PV) (vs : List V) (ds : List PyData), RepL g m H xs vs → toDL xs = some ds → DpAll g.K H vs ds
  | [], vs, ds, r, e => by
    unfold toDL at e
    cases e
    unfold RepL at r
    rw [r]
    exact .nil
  | x :: xs, vs, ds, r, e => by
    unfold toDL at e
    unfold RepL at r
    obtain ⟨v, ws, rfl, h1, h2⟩ := r
    cases q1 : toD x with
    | none => rw [q1] at e; cases e
    | some d =>
      cases q2 : toDL xs with
      | none => rw [q1, q2] at e; cases e
      | some es =>
        rw [q1, q2] at e
        cases e
        exact .cons (dp_of x v d h1 q1) (dpL_of xs ws es h2 q2)
end
theorem dpS_of {x : PV} {v : V} {d : PyData} (hS : RelS g m S H) (r : Rep g m H x v) (e : toDS x S = some d) : Dp g.K H v d := by
  cases x with
  | ref n =>
    simp only [toDS] at e
    cases q : S[n]? with
    | none => rw [q] at e; cases e
    | some o =>
      cases o with
      | lst xs =>
        rw [q] at e
        have e : (toDL xs).map PyData.list = some d := e
        obtain ⟨a, u, f1, f2, vs, rfl, f3⟩ := hS.at_ n _ q
        unfold Rep at r
        obtain ⟨b, e1, e2⟩ := r
        rw [f1] at e1; cases e1
        cases q2 : toDL xs with
        | none => rw [q2] at e; cases e
        | some ds => rw [q2] at e; cases e; rw [e2]; exact .lst (.inl (.inl f2)) (dpL_of xs vs ds (RepL.up _ _ f3) q2)
      | dT ks => rw [q] at e; cases e
      | fz ks => rw [q] at e; cases e
  | _ => exact dp_of _ v d r e
end
def fEq (neg : Bool) (x y : PV) (S : Sto) : Res PV := match toDS x S, toDS y S with
  | some d, some e => if SeqAt.shaped d = true ∧ SeqAt.shaped e = true then .ok (.bl (if neg = true then !PyData.eqv d e else PyData.eqv d e)) S else .bad
  | _, _ => .bad
section
variable {X : Cx} {T : Tb}
theorem sn_eq : Snd (gm X T) (rEqD X.K) (fEq false) := by
  intro W σ m S H x y v u Q hS rx ry p
  unfold fEq at p
  split at p
  · rename_i d e h1 h2
    split at p
    · rename_i h
      exact ⟨d, e, dpS_of hS rx h1, dpS_of hS ry h2, h.1, h.2, p.here hS (mk_bl _)⟩
    · exact p.elim
  · exact p.elim
theorem sn_ne : Snd (gm X T) (rNeD X.K) (fEq true) := by
  intro W σ m S H x y v u Q hS rx ry p
  unfold fEq at p
  split at p
  · rename_i d e h1 h2
    split at p
    · rename_i h
      exact ⟨d, e, dpS_of hS rx h1, dpS_of hS ry h2, h.1, h.2, p.here hS (mk_bl _)⟩
    · exact p.elim
  · exact p.elim
def fCmpI (f : Int → Int → Bool) : PV → PV → Sto → Res PV
  | .int i, .int j, S => .ok (.bl (f i j)) S
  | _, _, _ => .bad
theorem sn_cmpI (f : Int → Int → Bool) : Snd (gm X T) (rI0 fun i j => .bl (f i j)) (fCmpI f) := by
  intro W σ m S H x y v u Q hS rx ry p
  unfold fCmpI at p
  split at p
  · cases rep_int rx
    cases rep_int ry
    exact ⟨_, _, rfl, rfl, p.here hS (mk_bl _)⟩
  · exact p.elim
abbrev iLt (i j : Int) : Bool := decide (i < j)
abbrev iLe (i j : Int) : Bool := decide (i ≤ j)
abbrev iGt (i j : Int) : Bool := decide (j < i)
abbrev iGe (i j : Int) : Bool := decide (j ≤ i)
/-- < and <= of texts, by their signs -/
def fCmpS (f : List Nat → List Nat → Bool) : PV → PV → Sto → Res PV
  | .str i, .str j, S => .ok (.bl (f i.cps.toList j.cps.toList)) S
  | _, _, _ => .bad
/-- is, is not, of a bool -/
def isBv : PV → Bool → Bool
  | .bl a, b => a == b
  | _, _ => false
def fIs (neg : Bool) : PV → PV → Sto → Res PV
  | x, .bl b, S => .ok (.bl (if neg = true then !isBv x b else isBv x b)) S
  | _, _, _ => .bad
def isNon : PV → Bool
  | .non => true
  | _ => false
def fIsN (neg : Bool) : PV → PV → Sto → Res PV
  | x, .non, S => .ok (.bl (if neg = true then !isNon x else isNon x)) S
  | _, _, _ => .bad
theorem isNon_rep {g : Gm} {m : Mm} {H : Hp} {x : PV} {v : V} (r : Rep g m H x v) : decide (v = V.non) = isNon x := by
  cases x with
  | non => rw [rep_non r]; simp [isNon]
  | bl b => rw [rep_bl r]; simp [isNon]
  | int b => rw [rep_int r]; simp [isNon]
  | str b => rw [rep_str r]; simp [isNon]
  | ty b => rw [rep_ty r]; simp [isNon]
  | tup xs => obtain ⟨a, vs, rfl, _⟩ := tup_rep r; simp [isNon]
  | ct xs => obtain ⟨a, vs, rfl, _⟩ := ct_rep r; simp [isNon]
  | nl xs => unfold Rep at r; obtain ⟨a, vs, rfl, _⟩ := r; simp [isNon]
  | fl xs => unfold Rep at r; obtain ⟨a, vs, rfl, _⟩ := r; simp [isNon]
  | nd ks xs => unfold Rep at r; obtain ⟨a, vs, rfl, _⟩ := r; simp [isNon]
  | ref n => unfold Rep at r; obtain ⟨a, _, rfl⟩ := r; simp [isNon]
  | glb n => unfold Rep at r; obtain ⟨a, _, rfl⟩ := r; simp [isNon]
  | err => unfold Rep at r; obtain ⟨a, _, rfl, _⟩ := r; simp [isNon]
  | lam => unfold Rep at r; obtain ⟨i, _, rfl, _⟩ := r; simp [isNon]
theorem sn_isN : Snd (gm X T) (fun x y H Q => y = .non ∧ Q (.bl (decide (x = .non))) H) (fIsN false) := by
  intro W σ m S H x y v u Q hS rx ry p
  unfold fIsN at p
  split at p
  · rw [isNon_rep rx]
    exact ⟨rep_non ry, p.here hS (mk_bl _)⟩
  · exact p.elim
theorem sn_notN : Snd (gm X T) (fun x y H Q => y = .non ∧ Q (.bl (!decide (x = .non))) H) (fIsN true) := by
  intro W σ m S H x y v u Q hS rx ry p
  unfold fIsN at p
  split at p
  · rw [isNon_rep rx]
    exact ⟨rep_non ry, p.here hS (mk_bl _)⟩
  · exact p.elim
theorem dec_beq (a b : Bool) : decide (a = b) = (a == b) := by cases a <;> cases b <;> rfl
theorem isBv_rep {g : Gm} {m : Mm} {H : Hp} {x : PV} {v : V} {b : Bool} (r : Rep g m H x v) : decide (v = V.bl b) = isBv x b := by
  cases x with
  | non => rw [rep_non r]; simp [isBv]
  | bl c => rw [rep_bl r]; simp [isBv]; exact dec_beq c b
  | int b => rw [rep_int r]; simp [isBv]
  | str b => rw [rep_str r]; simp [isBv]
  | ty b => rw [rep_ty r]; simp [isBv]
  | tup xs => obtain ⟨a, vs, rfl, _⟩ := tup_rep r; simp [isBv]
  | ct xs => obtain ⟨a, vs, rfl, _⟩ := ct_rep r; simp [isBv]
  | nl xs => unfold Rep at r; obtain ⟨a, vs, rfl, _⟩ := r; simp [isBv]
  | fl xs => unfold Rep at r; obtain ⟨a, vs, rfl, _⟩ := r; simp [isBv]
  | nd ks xs => unfold Rep at r; obtain ⟨a, vs, rfl, _⟩ := r; simp [isBv]
  | ref n => unfold Rep at r; obtain ⟨a, _, rfl⟩ := r; simp [isBv]
  | glb n => unfold Rep at r; obtain ⟨a, _, rfl⟩ := r; simp [isBv]
  | err => unfold Rep at r; obtain ⟨a, _, rfl, _⟩ := r; simp [isBv]
  | lam => unfold Rep at r; obtain ⟨i, _, rfl, _⟩ := r; simp [isBv]
/-- any value is, is not a bool -/
def rIsA : R2 := fun x y H Q => ∃ b : Bool, y = .bl b ∧ Q (.bl (decide (x = .bl b))) H
def rNotA : R2 := fun x y H Q => ∃ b : Bool, y = .bl b ∧ Q (.bl (!decide (x = .bl b))) H
theorem same_b {M : Model} {A : Around} {E : Value → Shared → Prop} {s : Shared} {x : V} {u : Value} {b : Bool} {R : Bool → Shared → Prop} (r : RelV x u) (q : R (decide (x = .bl b)) s) : wpAny M A (isSame u (.bool b)) R E s := by
  have go : ∀ {u : Value}, plainIs u (.bool b) = true → (u == Value.bool b) = decide (x = .bl b) → wpAny M A (isSame u (.bool b)) R E s := fun h1 h2 => wpAny_isSame_plain h1 (by rw [h2]; exact q)
  cases x with
  | ref a => cases r; exact go rfl rfl
  | non => cases r; exact go rfl rfl
  | bl c =>
    cases r
    refine go rfl ?_
    cases b <;> cases c <;> rfl
  | int i => obtain ⟨t, rfl⟩ := r; exact go rfl rfl
  | str x => obtain ⟨t, rfl⟩ := r; exact go rfl rfl
  | byt x => obtain ⟨t, rfl⟩ := r; exact go rfl rfl
  | flt x => obtain ⟨t, rfl⟩ := r; exact go rfl rfl
  | ty n => cases r; exact go rfl rfl
theorem op_isA : OpR X (compareOp .Is) rIsA := by
  intro pins s σ H x y v u Q I rx ry h
  obtain ⟨b, rfl, q⟩ := h
  cases (show u = Value.bool b from ry)
  show wpAny _ _ ((isSame v (Value.bool b)) >>= fun z => pure (Value.bool z)) _ _ s
  exact wpAny_bind (same_b rx (wpAny_pure ⟨.bl _, H, I, rfl, q⟩))
theorem op_notA : OpR X (compareOp .IsNot) rNotA := by
  intro pins s σ H x y v u Q I rx ry h
  obtain ⟨b, rfl, q⟩ := h
  cases (show u = Value.bool b from ry)
  show wpAny _ _ ((isSame v (Value.bool b)) >>= fun z => pure (Value.bool (!z))) _ _ s
  exact wpAny_bind (same_b rx (wpAny_pure ⟨.bl _, H, I, rfl, q⟩))
theorem sn_isB : Snd (gm X T) rIsA (fIs false) := by
  intro W σ m S H x y v u Q hS rx ry p
  unfold fIs at p
  split at p
  · refine ⟨_, rep_bl ry, ?_⟩
    rw [isBv_rep rx]
    exact p.here hS (mk_bl _)
  · exact p.elim
theorem sn_notB : Snd (gm X T) rNotA (fIs true) := by
  intro W σ m S H x y v u Q hS rx ry p
  unfold fIs at p
  split at p
  · refine ⟨_, rep_bl ry, ?_⟩
    rw [isBv_rep rx]
    exact p.here hS (mk_bl _)
  · exact p.elim
end
/-- x in (flat items) -/
def flatP : PV → Bool
  | .non | .bl _ | .int _ | .str _ => true
  | _ => false
def toV : PV → V
  | .non => .non
  | .bl b => .bl b
  | .int i => .int i
  | .str s => .str s
  | _ => .non
def eqP (x y : PV) : Bool := eqV (toV x) (toV y)
def inP (x : PV) (xs : List PV) : Bool := xs.any fun y => eqP y x
def fIn (neg : Bool) (x y : PV) (S : Sto) : Res PV := match seqOf y S with
  | some xs => if flatP x = true ∧ xs.all flatP = true then .ok (.bl (if neg = true then !inP x xs else inP x xs)) S else .bad
  | none => .bad
section
variable {X : Cx} {T : Tb}
theorem toV_rep {g : Gm} {m : Mm} {H : Hp} {x : PV} {v : V} (r : Rep g m H x v) (h : flatP x = true) : v = toV x ∧ flatV v = true := by
  cases x with
  | non => rw [rep_non r]; exact ⟨rfl, rfl⟩
  | bl b => rw [rep_bl r]; exact ⟨rfl, rfl⟩
  | int b => rw [rep_int r]; exact ⟨rfl, rfl⟩
  | str b => rw [rep_str r]; exact ⟨rfl, rfl⟩
  | _ => cases h
theorem toVL_rep {g : Gm} {m : Mm} {H : Hp} : ∀ {xs : List PV} {vs : List V}, RepL g m H xs vs → xs.all flatP = true → vs = xs.map toV ∧ vs.all flatV = true
  | [], _, r, _ => by unfold RepL at r; rw [r]; exact ⟨rfl, rfl⟩
  | x :: xs, _, r, h => by
    unfold RepL at r
    obtain ⟨v, ws, rfl, h1, h2⟩ := r
    rw [List.all_cons, Bool.and_eq_true] at h
    obtain ⟨e1, f1⟩ := toV_rep h1 h.1
    obtain ⟨e2, f2⟩ := toVL_rep h2 h.2
    exact ⟨by rw [List.map_cons, ← e1, ← e2], by rw [List.all_cons, f1, f2]; rfl⟩
theorem sn_in (neg : Bool) : Snd (gm X T) (rIn X.K neg) (fIn neg) := by
  intro W σ m S H x y v u Q hS rx ry p
  unfold fIn at p
  split at p
  · rename_i xs e
    split at p
    · rename_i h
      obtain ⟨a, vs, rfl, h1, h2⟩ := seqOf_rep hS ry e
      obtain ⟨e1, f1⟩ := toV_rep rx h.1
      obtain ⟨e2, f2⟩ := toVL_rep h2 h.2
      refine ⟨a, vs, rfl, h1, f1, f2, ?_⟩
      have q : inV v vs = inP x xs := by
        rw [e1, e2]
        unfold inV inP
        rw [List.any_map]
        rfl
      cases neg with
      | false => rw [if_neg Bool.false_ne_true, q]; exact p.here hS (mk_bl _)
      | true => rw [if_pos rfl, q]; exact p.here hS (mk_bl _)
    · exact p.elim
  · exact p.elim
end

/-! ### and, or, not, if -/
def dAnd (da db : EnP → Sto → Res PV) : EnP → Sto → Res PV := fun ρ S => (da ρ S).bind fun x S1 => match x with
  | .bl true => db ρ S1
  | .bl false => .ok (.bl false) S1
  | _ => .bad
def dOr (da db : EnP → Sto → Res PV) : EnP → Sto → Res PV := fun ρ S => (da ρ S).bind fun x S1 => match x with
  | .bl true => .ok (.bl true) S1
  | .bl false => db ρ S1
  | _ => .bad
def dNot (da : EnP → Sto → Res PV) : EnP → Sto → Res PV := fun ρ S => (da ρ S).bind fun x S1 => match x with
  | .bl b => .ok (.bl (!b)) S1
  | _ => .bad
def bAnd (da db : EnP → Sto → Res Bool) : EnP → Sto → Res Bool := fun ρ S => (da ρ S).bind fun x S1 => if x = true then db ρ S1 else .ok false S1
def bOr (da db : EnP → Sto → Res Bool) : EnP → Sto → Res Bool := fun ρ S => (da ρ S).bind fun x S1 => if x = true then .ok true S1 else db ρ S1
def bNot (da : EnP → Sto → Res Bool) : EnP → Sto → Res Bool := fun ρ S => (da ρ S).bind fun x S1 => .ok (!x) S1
def dIf (dc : EnP → Sto → Res Bool) (da db : EnP → Sto → Res PV) : EnP → Sto → Res PV := fun ρ S => (dc ρ S).bind fun x S1 => if x = true then da ρ S1 else db ρ S1
section
variable {X : Cx} {T : Tb} {W : WX} {pos : Pos} {a b c : Expr} {rest : List Expr} {da db dc : EnP → Sto → Res PV} {ea eb : EnP → Sto → Res Bool}
theorem ce_one {op} (h : CE X T W a da) : CE X T W (.BoolOp op [a] pos) da := pe_one h
theorem ce_and (ha : CE X T W a da) (hb : CE X T W (.BoolOp .And (b :: rest) pos) db) : CE X T W (.BoolOp .And (a :: b :: rest) pos) (dAnd da db) :=
  pe_imp (pe_and ha hb) fun σ H Q ⟨ρ, S, m, hE, hS, p⟩ => tr_bind (f := fun (x : PV) (ρ : EnP) (S1 : Sto) => match x with | .bl true => db ρ S1 | .bl false => .ok (.bl false) S1 | _ => .bad) hE hS p fun x S1 m1 H1 w s1 hE1 hS1 hr1 p1 => by
    cases x with
    | bl k =>
      refine ⟨k, rep_bl hr1, ?_⟩
      cases k with
      | true => rw [if_pos rfl]; exact ⟨ρ, S1, m1, hE1, hS1, p1⟩
      | false => rw [if_neg Bool.false_ne_true]; exact PostR.here (a := PV.bl false) p1 hS1 (mk_bl _)
    | _ => exact p1.elim
theorem ce_or (ha : CE X T W a da) (hb : CE X T W (.BoolOp .Or (b :: rest) pos) db) : CE X T W (.BoolOp .Or (a :: b :: rest) pos) (dOr da db) :=
  pe_imp (pe_or ha hb) fun σ H Q ⟨ρ, S, m, hE, hS, p⟩ => tr_bind (f := fun (x : PV) (ρ : EnP) (S1 : Sto) => match x with | .bl true => .ok (.bl true) S1 | .bl false => db ρ S1 | _ => .bad) hE hS p fun x S1 m1 H1 w s1 hE1 hS1 hr1 p1 => by
    cases x with
    | bl k =>
      refine ⟨k, rep_bl hr1, ?_⟩
      cases k with
      | true => rw [if_pos rfl]; exact PostR.here (a := PV.bl true) p1 hS1 (mk_bl _)
      | false => rw [if_neg Bool.false_ne_true]; exact ⟨ρ, S1, m1, hE1, hS1, p1⟩
    | _ => exact p1.elim
theorem ce_not (ha : CE X T W a da) : CE X T W (.UnaryOp .Not a pos) (dNot da) :=
  pe_imp (pe_not ha) fun σ H Q ⟨ρ, S, m, hE, hS, p⟩ => tr_bind (f := fun (x : PV) (ρ : EnP) (S1 : Sto) => match x with | .bl b => Res.ok (PV.bl (!b)) S1 | _ => .bad) hE hS p fun x S1 m1 H1 w s1 hE1 hS1 hr1 p1 => by
    cases x with
    | bl k => exact ⟨k, rep_bl hr1, PostR.here (a := PV.bl (!k)) p1 hS1 (mk_bl _)⟩
    | _ => exact p1.elim
theorem cw_and1 (ha : CT X T W a ea) : CW X T W (.BoolOp .And [a] pos) ea := pw_and1 ha
theorem cw_or1 (ha : CT X T W a ea) : CW X T W (.BoolOp .Or [a] pos) ea := pw_or1 ha
theorem cw_and (ha : CT X T W a ea) (hb : CW X T W (.BoolOp .And (b :: rest) pos) eb) : CW X T W (.BoolOp .And (a :: b :: rest) pos) (bAnd ea eb) :=
  pw_imp (pw_and ha hb) fun σ H Q ⟨ρ, S, m, hE, hS, p⟩ => tr_bind (f := fun x ρ S1 => if x = true then eb ρ S1 else .ok false S1) hE hS p fun x S1 m1 H1 w s1 hE1 hS1 hr1 p1 => by
    cases hr1
    cases x with
    | true => rw [if_pos rfl] at p1 ⊢; exact ⟨ρ, S1, m1, hE1, hS1, p1⟩
    | false => rw [if_neg Bool.false_ne_true] at p1 ⊢; exact PostR.here (a := false) p1 hS1 rfl
theorem cw_or (ha : CT X T W a ea) (hb : CW X T W (.BoolOp .Or (b :: rest) pos) eb) : CW X T W (.BoolOp .Or (a :: b :: rest) pos) (bOr ea eb) :=
  pw_imp (pw_or ha hb) fun σ H Q ⟨ρ, S, m, hE, hS, p⟩ => tr_bind (f := fun x ρ S1 => if x = true then .ok true S1 else eb ρ S1) hE hS p fun x S1 m1 H1 w s1 hE1 hS1 hr1 p1 => by
    cases hr1
    cases x with
    | true => rw [if_pos rfl] at p1 ⊢; exact PostR.here (a := true) p1 hS1 rfl
    | false => rw [if_neg Bool.false_ne_true] at p1 ⊢; exact ⟨ρ, S1, m1, hE1, hS1, p1⟩
theorem ct_w (h : CW X T W a ea) : CT X T W a ea := h.pt
theorem ct_not (ha : CT X T W a ea) : CT X T W (.UnaryOp .Not a pos) (bNot ea) :=
  pt_imp (pt_not ha) fun σ H Q ⟨ρ, S, m, hE, hS, p⟩ => tr_bind (f := fun x ρ S1 => .ok (!x) S1) hE hS p fun x S1 m1 H1 w s1 hE1 hS1 hr1 p1 => by
    cases hr1
    exact PostR.here (a := !x) p1 hS1 rfl
theorem ce_if (hc : CT X T W c ea) (ha : CE X T W a da) (hb : CE X T W b db) : CE X T W (.IfExp c a b pos) (dIf ea da db) :=
  pe_imp (pe_ifExp hc ha hb) fun σ H Q ⟨ρ, S, m, hE, hS, p⟩ => tr_bind (f := fun x ρ S1 => if x = true then da ρ S1 else db ρ S1) hE hS p fun x S1 m1 H1 w s1 hE1 hS1 hr1 p1 => by
    cases hr1
    cases x with
    | true => rw [if_pos rfl] at p1 ⊢; exact ⟨ρ, S1, m1, hE1, hS1, p1⟩
    | false => rw [if_neg Bool.false_ne_true] at p1 ⊢; exact ⟨ρ, S1, m1, hE1, hS1, p1⟩
/-- a op1 b op2 c -/
def dChain (f f' : PV → PV → Sto → Res PV) (da db dc : EnP → Sto → Res PV) : EnP → Sto → Res PV := fun ρ S => (da ρ S).bind fun x S1 => (db ρ S1).bind fun y S2 => (f x y S2).bind fun z S3 => match z with
  | .bl true => (dc ρ S3).bind fun w S4 => f' y w S4
  | .bl false => .ok (.bl false) S3
  | _ => .bad
theorem chain_of {f f' : PV → PV → Sto → Res PV} {r r' : R2} (hs : Snd (gm X T) r f) (hs' : Snd (gm X T) r' f') {σ : L2.St} {H : Hp} {Q : VK} (h : tv (gm X T) W (dChain f f' da db dc) σ H Q) :
    tChain r r' (tv (gm X T) W da) (tv (gm X T) W db) (tv (gm X T) W dc) σ H Q := by
  obtain ⟨ρ, S, m, hE, hS, p⟩ := h
  refine tr_bind (f := fun x ρ S1 => (db ρ S1).bind fun y S2 => (f x y S2).bind fun z S3 => match z with
    | .bl true => (dc ρ S3).bind fun w S4 => f' y w S4
    | .bl false => .ok (.bl false) S3
    | _ => .bad) hE hS p fun x S1 m1 H1 w s1 hE1 hS1 hr1 p1 => ?_
  refine tr_bind (f := fun y ρ S2 => (f x y S2).bind fun z S3 => match z with
    | .bl true => (dc ρ S3).bind fun w S4 => f' y w S4
    | .bl false => .ok (.bl false) S3
    | _ => .bad) hE1 hS1 p1 fun y S2 m2 H2 w2 s2 hE2 hS2 hr2 p2 => ?_
  refine hs W σ m2 S2 H2 x y w w2 _ hS2 (hr1.step s2) hr2 ?_
  cases e : f x y S2 with
  | bad => rw [e] at p2; exact p2.elim
  | exc c fs S3 => rw [e] at p2; exact fun m' H' cls dd s h1 h2 => p2 m' H' cls dd s h1 h2
  | ok z S3 =>
    rw [e] at p2
    intro m3 H3 w3 s3 hS3 hr3
    cases z with
    | bl k =>
      refine ⟨k, rep_bl hr3, ?_⟩
      cases k with
      | true =>
        rw [if_pos rfl]
        have p3 : PostV (gm X T) W σ m2 H2 Q ((dc ρ S3).bind fun w S4 => f' y w S4) := p2
        exact tr_bind (f := fun w ρ S4 => f' y w S4) (hE2.step s3) hS3 (PostR.step s3 p3) fun z S4 m4 H4 w4 s4 hE4 hS4 hr4 p4 => hs' W σ m4 S4 H4 y z w2 w4 Q hS4 (hr2.step (s3.trans s4)) hr4 p4
      | false =>
        rw [if_neg Bool.false_ne_true]
        have p3 : PostV (gm X T) W σ m2 H2 Q (.ok (.bl false) S3) := p2
        exact p3 m3 H3 (.bl false) s3 hS3 (mk_bl _)
    | _ => exact p2.elim
theorem ce_chain {op op' : CmpOp} {f f' : PV → PV → Sto → Res PV} {r r' : R2} (ho : OpR X (compareOp op) r) (hs : Snd (gm X T) r f) (ho' : OpR X (compareOp op') r') (hs' : Snd (gm X T) r' f') (ha : CE X T W a da) (hb : CE X T W b db) (hc : CE X T W c dc)
    (hm : lastMarks [op, op'] [b, c] = false := by with_unfolding_all rfl) : CE X T W (.Compare a [op, op'] [b, c] pos) (dChain f f' da db dc) :=
  pe_imp (pe_chain ho ho' ha hb hc hm) fun σ H Q h => chain_of hs hs' h
theorem ct_chain {op op' : CmpOp} {f f' : PV → PV → Sto → Res PV} {r r' : R2} (ho : OpR X (compareOp op) r) (hs : Snd (gm X T) r f) (ho' : OpR X (compareOp op') r') (hs' : Snd (gm X T) r' f') (ha : CE X T W a da) (hb : CE X T W b db) (hc : CE X T W c dc)
    (hm : lastMarks [op, op'] [b, c] = false := by with_unfolding_all rfl) : CT X T W (.Compare a [op, op'] [b, c] pos) (dB (dChain f f' da db dc)) :=
  pt_imp (pt_chain ho ho' ha hb hc hm) fun σ H Q ⟨ρ, S, m, hE, hS, p⟩ => chain_of hs hs' ⟨ρ, S, m, hE, hS, asB_post p⟩
/-- a value's truth -/
def truP (x : PV) (S : Sto) : Option Bool := match x with
  | .non => some false
  | .bl b => some b
  | .int i => some (i != 0)
  | .str s => if s.length ≤ lim then some ((s.length : Int) != 0) else none
  | x => match seqOf x S with
    | some xs => some (!xs.isEmpty)
    | none => none
def dTru (da : EnP → Sto → Res PV) : EnP → Sto → Res Bool := fun ρ S => (da ρ S).bind fun x S1 => match truP x S1 with
  | some b => .ok b S1
  | none => .bad
theorem truP_rep {g : Gm} {m : Mm} {S : Sto} {H : Hp} {x : PV} {v : V} {k : Bool} (hS : RelS g m S H) (r : Rep g m H x v) (e : truP x S = some k) : TruV g.K v H k := by
  have sq : (match seqOf x S with | some xs => some (!xs.isEmpty) | none => none) = some k → TruV g.K v H k := fun e => by
    cases q : seqOf x S with
    | none => rw [q] at e; cases e
    | some xs =>
      rw [q] at e
      obtain ⟨a, vs, rfl, h1, h2⟩ := seqOf_rep hS r q
      have z : (!xs.isEmpty) = k := Option.some.inj e
      have z2 : xs.isEmpty = vs.isEmpty := by
        have l := h2.length
        cases xs <;> cases vs <;> first | rfl | cases l
      rw [z2] at z
      rcases h1 with h1 | h1
      · exact .inl ⟨vs, h1, z.symm⟩
      · exact .inr (.inl ⟨vs, h1, z.symm⟩)
  cases x with
  | non => rw [rep_non r]; cases e; rfl
  | bl b => rw [rep_bl r]; cases e; rfl
  | int i => rw [rep_int r]; cases e; rfl
  | str s =>
    rw [rep_str r]
    simp only [truP] at e
    split at e
    · rename_i h
      cases e
      exact ⟨lim_line h, rfl⟩
    · cases e
  | _ => exact sq e
theorem ct_tru (ha : CE X T W a da) (he : ∀ whole, isTrue a X.env whole = (do let v ← whole; standAt a.pos; holding [v] (truthy v)) := by intro _; rfl) : CT X T W a (dTru da) :=
  pt_imp (pt_truth ha he) fun σ H Q ⟨ρ, S, m, hE, hS, p⟩ => tr_bind (f := fun x ρ S1 => match truP x S1 with | some b => .ok b S1 | none => .bad) hE hS p fun x S1 m1 H1 w s1 hE1 hS1 hr1 p1 => by
    cases e : truP x S1 with
    | none => rw [e] at p1; exact p1.elim
    | some k => rw [e] at p1; exact ⟨k, truP_rep hS1 hr1 e, PostR.here (a := k) p1 hS1 rfl⟩
end
end Mi
end
section
set_option Elab.async false
set_option linter.all false
set_option maxRecDepth 100000
set_option maxHeartbeats 2000000
namespace Mi
open PySem PySem.Spec PyProof.Rows L2

/-! ### arguments, displays -/
def dNil : EnP → Sto → Res (List PV) := fun _ S => .ok [] S
def dCons (da : EnP → Sto → Res PV) (dr : EnP → Sto → Res (List PV)) : EnP → Sto → Res (List PV) := fun ρ S => (da ρ S).bind fun x S1 => (dr ρ S1).bind fun xs S2 => .ok (x :: xs) S2
def dTup (dl : EnP → Sto → Res (List PV)) : EnP → Sto → Res PV := fun ρ S => (dl ρ S).bind fun xs S1 => mkTup xs S1
def dLst (mt : Bool) (dl : EnP → Sto → Res (List PV)) : EnP → Sto → Res PV := fun ρ S => (dl ρ S).bind fun xs S1 => mkLst mt xs S1
/-- a call of what is known, by values -/
def dCB (f : List PV → Sto → Res PV) (dl : EnP → Sto → Res (List PV)) : EnP → Sto → Res PV := fun ρ S => (dl ρ S).bind fun xs S1 => f xs S1
def SndL (g : Gm) (r : List V → Hp → VK → Prop) (f : List PV → Sto → Res PV) : Prop :=
  ∀ (W : WX) (σ : L2.St) (m : Mm) (S : Sto) (H : Hp) (xs : List PV) (vs : List V) (Q : VK), RelS g m S H → RepL g m H xs vs → PostV g W σ m H Q (f xs S) → r vs H Q
section
variable {X : Cx} {T : Tb} {W : WX} {pos : Pos} {e : Expr} {es : List Expr} {da db : EnP → Sto → Res PV} {dl : EnP → Sto → Res (List PV)}
theorem ca_nil : CA X T W [] dNil := pa_imp pa_nil fun σ H Q ⟨ρ, S, m, hE, hS, p⟩ => PostR.here (a := ([] : List PV)) p hS RepL.nil
theorem ca_cons (ha : CE X T W e da) (hr : CA X T W es dl) (hs : starEach (e :: es) X.env = (false, eval e X.env) :: starEach es X.env := by rfl) : CA X T W (e :: es) (dCons da dl) :=
  pa_imp (pa_cons ha hr hs) fun σ H Q ⟨ρ, S, m, hE, hS, p⟩ => tr_bind (f := fun (x : PV) ρ S1 => (dl ρ S1).bind fun xs S2 => Res.ok (x :: xs) S2) hE hS p fun x S1 m1 H1 w s1 hE1 hS1 hr1 p1 =>
    tr_bind (f := fun (xs : List PV) _ S2 => Res.ok (x :: xs) S2) hE1 hS1 p1 fun xs S2 m2 H2 ws s2 hE2 hS2 hr2 p2 => PostR.here (a := x :: xs) p2 hS2 (RepL.cons (hr1.step s2) hr2)
theorem ce_tup {k : Nat} (h : CA X T W es dl) : CE X T W (.Tuple es k pos) (dTup dl) :=
  pe_imp (pe_tup h) fun σ H Q ⟨ρ, S, m, hE, hS, p⟩ => tr_bind (f := fun xs _ S1 => mkTup xs S1) hE hS p fun xs S1 m1 H1 ws s1 hE1 hS1 hr1 p1 => new_tup hS1 hr1 p1
theorem ce_lst (mt : Bool) (hb : mt = true → Bare (gm X T)) (h : CA X T W es dl) : CE X T W (.List es pos) (dLst mt dl) :=
  pe_imp (pe_lst h) fun σ H Q ⟨ρ, S, m, hE, hS, p⟩ => tr_bind (f := fun xs _ S1 => mkLst mt xs S1) hE hS p fun xs S1 m1 H1 ws s1 hE1 hS1 hr1 p1 => new_lst hb hS1 hr1 p1
theorem cb_of {f : List PV → Sto → Res PV} {r : List V → Hp → VK → Prop} (hs : SndL (gm X T) r f) {σ : L2.St} {H : Hp} {Q : VK} (h : tv (gm X T) W (dCB f dl) σ H Q) : tCB r (tl (gm X T) W dl) σ H Q := by
  obtain ⟨ρ, S, m, hE, hS, p⟩ := h
  exact tr_bind (f := fun xs _ S1 => f xs S1) hE hS p fun xs S1 m1 H1 ws s1 hE1 hS1 hr1 p1 => hs W σ m1 S1 H1 xs ws Q hS1 hr1 p1
theorem ce_callB {f : List PV → Sto → Res PV} {r : List V → Hp → VK → Prop} {x : Str} {id : String} {p : Pos} (hc : CallR X (.builtin id) r) (hs : SndL (gm X T) r f) (hg : Gl X x) (hm : X.mg x = none) (hv : bootBuiltins x = some (.builtin id)) (ha : CA X T W (e :: es) dl)
    (hn : x ≠ "__name__" := by decide) (hdb : (x == ("__debug__" : Str)) = false := by decide) (he : starEach (e :: es) X.env = (false, eval e X.env) :: starEach es X.env := by rfl) (hpl : (backTo pos (starEach es X.env)).any (·.1) = false := by rfl) :
    CE X T W (.Call (.Name x p) (e :: es) [] pos) (dCB f dl) := pe_imp (pe_callB hc hg hm hv ha hn hdb he hpl) fun σ H Q h => cb_of hs h
theorem ce_callTy {f : List PV → Sto → Res PV} {r : List V → Hp → VK → Prop} {x : Str} {ty : String} {p : Pos} (hc : CallR X (.type ty) r) (hs : SndL (gm X T) r f) (hg : Gl X x) (hm : X.mg x = none) (hv : bootBuiltins x = some (.type ty)) (ha : CA X T W (e :: es) dl)
    (hn : x ≠ "__name__" := by decide) (hdb : (x == ("__debug__" : Str)) = false := by decide) (he : starEach (e :: es) X.env = (false, eval e X.env) :: starEach es X.env := by rfl) (hpl : (backTo pos (starEach es X.env)).any (·.1) = false := by rfl) :
    CE X T W (.Call (.Name x p) (e :: es) [] pos) (dCB f dl) := pe_imp (pe_callTy hc hg hm hv ha hn hdb he hpl) fun σ H Q h => cb_of hs h
end

/-! ### subscripts, slices -/
def fIx : PV → PV → Sto → Res PV
  | .str s, .int i, S => match atI s.cps.toList i with
    | some c => if s.length ≤ lim then .ok (.str ⟨#[c]⟩) S else .bad
    | none => .bad
  | x, .int i, S => match seqOf x S with
    | some xs => (match atI xs i with
      | some v => .ok v S
      | none => .bad)
    | none => .bad
  | _, _, _ => .bad
def cutP (xs : List PV) (lo hi : Option Int) : List PV := (xs.drop (HT.sIx xs.length 0 lo)).take (HT.sIx xs.length xs.length hi - HT.sIx xs.length 0 lo)
def fSl (mt : Bool) (x : PV) (lo hi : Option Int) (S : Sto) : Res PV := match x with
  | .tup xs => mkTup (cutP xs lo hi) S
  | .str s => if s.length ≤ lim then .ok (.str (cutS s lo hi)) S else .bad
  | x => match lstOf x S with
    | some xs => mkLst mt (cutP xs lo hi) S
    | none => .bad
def dNoPart : EnP → Sto → Res (Option Int) := fun _ S => .ok none S
def dPart (d : EnP → Sto → Res PV) : EnP → Sto → Res (Option Int) := fun ρ S => (d ρ S).bind fun x S1 => match x with
  | .int i => .ok (some i) S1
  | _ => .bad
def dSl (mt : Bool) (d : EnP → Sto → Res PV) (lo hi : EnP → Sto → Res (Option Int)) : EnP → Sto → Res PV := fun ρ S => (d ρ S).bind fun x S1 => (lo ρ S1).bind fun l S2 => (hi ρ S2).bind fun h S3 => fSl mt x l h S3
abbrev tpart (g : Gm) (W : WX) (d : EnP → Sto → Res (Option Int)) : TO := tr g W (fun _ _ a b => a = b) d
abbrev CO (X : Cx) (T : Tb) (W : WX) (e : Option Expr) (d : EnP → Sto → Res (Option Int)) : Prop := PO X e (tpart (gm X T) W d)
theorem po_imp {X : Cx} {e : Option Expr} {t t' : TO} (h : PO X e t) (w : ∀ σ H Q, t' σ H Q → t σ H Q) : PO X e t' := ⟨fun pins s σ H Q I q => h.run pins s σ H Q I (w σ H Q q)⟩
theorem atI_rep {g : Gm} {m : Mm} {H : Hp} {xs : List PV} {vs : List V} {i : Int} {x : PV} (r : RepL g m H xs vs) (h : atI xs i = some x) : ∃ v, atI vs i = some v ∧ Rep g m H x v := by
  unfold atI at h ⊢
  rw [← r.length]
  cases e : ixN xs.length i with
  | none => rw [e] at h; cases h
  | some j =>
    rw [e] at h
    exact r.get h
section
variable {X : Cx} {T : Tb} {W : WX} {pos p2 : Pos} {a b : Expr} {lo hi : Option Expr} {da db : EnP → Sto → Res PV} {dlo dhi : EnP → Sto → Res (Option Int)}
theorem sn_ix : Snd (gm X T) (rIx X.K) fIx := by
  intro W σ m S H x y v u Q hS rx ry p
  unfold fIx at p
  split at p
  · cases rep_str rx
    cases rep_int ry
    split at p
    · rename_i c e
      split at p
      · rename_i h
        exact .inr (.inr ⟨_, _, c, rfl, rfl, lim_line h, e, p.here hS (mk_str _)⟩)
      · exact p.elim
    · exact p.elim
  · cases rep_int ry
    split at p
    · rename_i xs e
      split at p
      · rename_i z e2
        obtain ⟨a, vs, rfl, h1, h2⟩ := seqOf_rep hS rx e
        obtain ⟨w, e3, r3⟩ := atI_rep h2 e2
        rcases h1 with h1 | h1
        · exact .inl ⟨a, vs, _, w, rfl, rfl, h1, e3, p.here hS r3⟩
        · exact .inr (.inl ⟨a, vs, _, w, rfl, rfl, h1, e3, p.here hS r3⟩)
      · exact p.elim
    · exact p.elim
  · exact p.elim
theorem ce_ix (ha : CE X T W a da) (hb : CE X T W b db) (hs : PlainIx b) : CE X T W (.Subscript a b pos) (dBin fIx da db) := pe_imp (pe_ix ix_seq ha hb hs) fun σ H Q h => two_of sn_ix h
theorem co_none : CO X T W none dNoPart := po_imp po_none fun σ H Q ⟨ρ, S, m, hE, hS, p⟩ => PostR.here (a := (none : Option Int)) p hS rfl
theorem co_some (h : CE X T W a da) : CO X T W (some a) (dPart da) :=
  po_imp (po_some h) fun σ H Q ⟨ρ, S, m, hE, hS, p⟩ => tr_bind (f := fun (x : PV) (ρ : EnP) (S1 : Sto) => match x with | .int i => Res.ok (some i) S1 | _ => .bad) hE hS p fun x S1 m1 H1 w s1 hE1 hS1 hr1 p1 => by
    cases x with
    | int i => exact ⟨i, rep_int hr1, PostR.here (a := some i) p1 hS1 rfl⟩
    | _ => exact p1.elim
def rSlM (K : PySem.W.Frag) : V → Option Int → Option Int → Hp → VK → Prop := fun x lo hi H Q => (rSlL K x lo hi H Q ∨ rSlA K x lo hi H Q) ∨ rSlS x lo hi H Q
theorem sl_M : SlR X (rSlM X.K) := (sl_list.or sl_tupA).or sl_str
theorem cutP_rep {g : Gm} {m : Mm} {H : Hp} {xs : List PV} {vs : List V} (r : RepL g m H xs vs) (lo hi : Option Int) : RepL g m H (cutP xs lo hi) (cutV vs lo hi) := by
  unfold cutP cutV
  rw [← r.length]
  exact (r.drop _).take _
theorem sn_sl (mt : Bool) {g : Gm} (hb : mt = true → Bare g) {W : WX} {σ : L2.St} {m : Mm} {S : Sto} {H : Hp} {x : PV} {v : V} {l h : Option Int} {Q : VK} (hS : RelS g m S H) (rx : Rep g m H x v) (p : PostV g W σ m H Q (fSl mt x l h S)) : rSlM g.K v l h H Q := by
  have lst : PostV g W σ m H Q (match lstOf x S with | some xs => mkLst mt (cutP xs l h) S | none => .bad) → rSlM g.K v l h H Q := fun p => by
    cases e : lstOf x S with
    | none => rw [e] at p; exact p.elim
    | some xs =>
      rw [e] at p
      obtain ⟨a, vs, rfl, h1, h2⟩ := lstOf_rep hS rx e
      exact .inl (.inl ⟨a, vs, rfl, h1, (new_lst hb hS (cutP_rep h2 l h) p).2⟩)
  cases x with
  | tup xs =>
    have p : PostV g W σ m H Q (mkTup (cutP xs l h) S) := p
    obtain ⟨a, vs, rfl, h1, h2⟩ := tup_rep rx
    refine .inl (.inr ⟨a, vs, rfl, h1, fun ⟨z1, z2⟩ => ?_, fun _ => (new_tup hS (cutP_rep h2 l h) p).2⟩)
    have e : cutP xs l h = xs := by
      unfold cutP
      rw [h2.length, z1, z2, ← h2.length]
      simp
    rw [e] at p
    unfold mkTup at p
    split at p
    · exact p.here hS rx
    · exact p.elim
  | str s =>
    rw [rep_str rx]
    simp only [fSl] at p
    split at p
    · rename_i z
      exact .inr ⟨s, rfl, lim_line z, p.here hS (mk_str _)⟩
    · exact p.elim
  | _ => exact lst p
theorem ce_sl (mt : Bool) (hb : mt = true → Bare (gm X T)) (ha : CE X T W a da) (hl : CO X T W lo dlo) (hu : CO X T W hi dhi) : CE X T W (.Subscript a (.Slice lo hi none p2) pos) (dSl mt da dlo dhi) :=
  pe_imp (pe_slice sl_M ha hl hu) fun σ H Q ⟨ρ, S, m, hE, hS, p⟩ =>
    tr_bind (f := fun (x : PV) (ρ : EnP) (S1 : Sto) => (dlo ρ S1).bind fun l S2 => (dhi ρ S2).bind fun h S3 => fSl mt x l h S3) hE hS p fun x S1 m1 H1 w s1 hE1 hS1 hr1 p1 =>
    tr_bind (f := fun (l : Option Int) (ρ : EnP) (S2 : Sto) => (dhi ρ S2).bind fun h S3 => fSl mt x l h S3) hE1 hS1 p1 fun l S2 m2 H2 l' s2 hE2 hS2 hr2 p2 =>
    tr_bind (f := fun (h : Option Int) (ρ : EnP) (S3 : Sto) => fSl mt x l h S3) hE2 hS2 p2 fun h S3 m3 H3 h' s3 hE3 hS3 hr3 p3 => by
      cases hr2
      cases hr3
      exact sn_sl mt hb hS3 (hr1.step (s2.trans s3)) p3
end

/-! ### built-ins -/
def fLen : List PV → Sto → Res PV
  | [x], S => (match x with
    | .str s => if s.length ≤ lim then .ok (.int s.length) S else .bad
    | x => match seqOf x S with
      | some xs => .ok (.int xs.length) S
      | none => .bad)
  | _, _ => .bad
def fAbs : List PV → Sto → Res PV
  | [.int i], S => .ok (.int (if i < 0 then -i else i)) S
  | _, _ => .bad
def fInt : List PV → Sto → Res PV
  | [.int i], S => .ok (.int i) S
  | [.bl k], S => .ok (.int (if k then 1 else 0)) S
  | _, _ => .bad
def fIntS : List PV → Sto → Res PV
  | [.str a], S => (match PySem.intText? a with
    | some n => if a.length ≤ 640 then .ok (.int n) S else .bad
    | none => .bad)
  | _, _ => .bad
def blsOf : List PV → Option (List Bool)
  | [] => some []
  | .bl b :: r => (match blsOf r with
    | some bs => some (b :: bs)
    | none => none)
  | _ :: _ => none
def fAll : List PV → Sto → Res PV
  | [x], S => (match lstOf x S with
    | some xs => (match blsOf xs with
      | some bs => .ok (.bl (bs.all id)) S
      | none => .bad)
    | none => .bad)
  | _, _ => .bad
def fAny : List PV → Sto → Res PV
  | [x], S => (match lstOf x S with
    | some xs => (match blsOf xs with
      | some bs => .ok (.bl (bs.any id)) S
      | none => .bad)
    | none => .bad)
  | _, _ => .bad
def fTuple : List PV → Sto → Res PV
  | [.tup xs], S => .ok (.tup xs) S
  | [x], S => (match lstOf x S with
    | some xs => if xs.length ≤ lim then .ok (.tup xs) S else .bad
    | none => .bad)
  | _, _ => .bad
def fList (mt : Bool) : List PV → Sto → Res PV
  | [x], S => (match seqOf x S with
    | some xs => mkLst mt xs S
    | none => .bad)
  | _, _ => .bad
def fMax : List PV → Sto → Res PV
  | [.int i, .int j], S => .ok (.int (if j > i then j else i)) S
  | _, _ => .bad
def fMin : List PV → Sto → Res PV
  | [.int i, .int j], S => .ok (.int (if j < i then j else i)) S
  | _, _ => .bad
def tyName : PV → Sto → Option String
  | .non, _ => some "NoneType"
  | .bl _, _ => some "bool"
  | .int _, _ => some "int"
  | .str _, _ => some "str"
  | .tup _, _ => some "tuple"
  | .ct _, _ => some "tuple"
  | .nd _ _, _ => some "dict"
  | x, S => match lstT x S with
    | some _ => some "list"
    | none => none
def fIsi : List PV → Sto → Res PV
  | [x, .ty n], S => (match tyName x S with
    | some a => (match kitB a n with
      | some b => .ok (.bl b) S
      | none => .bad)
    | none => .bad)
  | _, _ => .bad
/-- repr of data -/
def fRepr : List PV → Sto → Res PV
  | [x], S => (match toDS x S with
    | some d => if d.showable = true ∧ d.depth ≤ 64 ∧ d.shown.length ≤ lim then .ok (.str d.shown) S else .bad
    | none => .bad)
  | _, _ => .bad
def fStrI : List PV → Sto → Res PV
  | [.int i], S => if i.natAbs.log2 < 1920 then .ok (.str (toString i)) S else .bad
  | _, _ => .bad
section
variable {X : Cx} {T : Tb}
theorem one_rep {g : Gm} {m : Mm} {H : Hp} {x : PV} {vs : List V} (r : RepL g m H [x] vs) : ∃ v, vs = [v] ∧ Rep g m H x v := by
  unfold RepL at r
  obtain ⟨v, ws, rfl, h, r⟩ := r
  unfold RepL at r
  subst r
  exact ⟨v, rfl, h⟩
theorem two_rep {g : Gm} {m : Mm} {H : Hp} {x y : PV} {vs : List V} (r : RepL g m H [x, y] vs) : ∃ v u, vs = [v, u] ∧ Rep g m H x v ∧ Rep g m H y u := by
  unfold RepL at r
  obtain ⟨v, ws, rfl, h, r⟩ := r
  obtain ⟨u, rfl, h2⟩ := one_rep r
  exact ⟨v, u, rfl, h, h2⟩
theorem sl_len : SndL (gm X T) (fun xs H Q => ∃ x n, xs = [x] ∧ LenV X.K x H n ∧ Q (.int n) H) fLen := by
  intro W σ m S H xs vs Q hS r p
  unfold fLen at p
  split at p
  · rename_i x
    obtain ⟨v, rfl, rx⟩ := one_rep r
    have sq : PostV (gm X T) W σ m H Q (match seqOf x S with | some xs => .ok (.int xs.length) S | none => .bad) → ∃ y n, [v] = [y] ∧ LenV X.K y H n ∧ Q (.int n) H := fun p => by
      cases e : seqOf x S with
      | none => rw [e] at p; exact p.elim
      | some xs =>
        rw [e] at p
        obtain ⟨a, ws, rfl, h1, h2⟩ := seqOf_rep hS rx e
        refine ⟨.ref a, xs.length, rfl, ?_, p.here hS (mk_int _)⟩
        rcases h1 with h1 | h1
        · exact .inl ⟨ws, h1, h2.length⟩
        · exact .inr ⟨ws, h1, h2.length⟩
    cases x with
    | str s =>
      rw [rep_str rx]
      have p : PostV (gm X T) W σ m H Q (if s.length ≤ lim then .ok (.int s.length) S else .bad) := p
      split at p
      · rename_i h
        exact ⟨_, _, rfl, ⟨lim_line h, rfl⟩, p.here hS (mk_int _)⟩
      · exact p.elim
    | _ => exact sq p
  · exact p.elim
theorem sl_abs : SndL (gm X T) (fun xs H Q => ∃ i, xs = [.int i] ∧ Q (.int (if i < 0 then -i else i)) H) fAbs := by
  intro W σ m S H xs vs Q hS r p
  unfold fAbs at p
  split at p
  · obtain ⟨v, rfl, rx⟩ := one_rep r
    cases rep_int rx
    exact ⟨_, rfl, p.here hS (mk_int _)⟩
  · exact p.elim
theorem sl_int : SndL (gm X T) (fun xs H Q => (∃ i, xs = [.int i] ∧ Q (.int i) H) ∨ ∃ k, xs = [.bl k] ∧ Q (.int (if k then 1 else 0)) H) fInt := by
  intro W σ m S H xs vs Q hS r p
  unfold fInt at p
  split at p
  · obtain ⟨v, rfl, rx⟩ := one_rep r
    cases rep_int rx
    exact .inl ⟨_, rfl, p.here hS (mk_int _)⟩
  · obtain ⟨v, rfl, rx⟩ := one_rep r
    cases rep_bl rx
    exact .inr ⟨_, rfl, p.here hS (mk_int _)⟩
  · exact p.elim
theorem bls_rep {g : Gm} {m : Mm} {H : Hp} : ∀ {xs : List PV} {vs : List V} {bs : List Bool}, RepL g m H xs vs → blsOf xs = some bs → vs = bs.map V.bl
  | [], vs, bs, r, e => by unfold RepL at r; unfold blsOf at e; cases e; rw [r]; rfl
  | x :: xs, vs, bs, r, e => by
    unfold RepL at r
    obtain ⟨v, ws, rfl, h1, h2⟩ := r
    cases x with
    | bl b =>
      simp only [blsOf] at e
      split at e
      · rename_i bs' e'
        cases e
        rw [rep_bl h1, bls_rep h2 e']
        rfl
      · cases e
    | _ => cases e
theorem sl_all : SndL (gm X T) (rAll X.K) fAll := by
  intro W σ m S H xs vs Q hS r p
  unfold fAll at p
  split at p
  · obtain ⟨v, rfl, rx⟩ := one_rep r
    split at p
    · rename_i xs e
      split at p
      · rename_i bs e2
        obtain ⟨a, ws, rfl, h1, h2⟩ := lstOf_rep hS rx e
        have z := bls_rep h2 e2
        rw [z] at h1
        exact ⟨a, bs, rfl, h1, p.here hS (mk_bl _)⟩
      · exact p.elim
    · exact p.elim
  · exact p.elim
theorem sl_any : SndL (gm X T) (rAny X.K) fAny := by
  intro W σ m S H xs vs Q hS r p
  unfold fAny at p
  split at p
  · obtain ⟨v, rfl, rx⟩ := one_rep r
    split at p
    · rename_i xs e
      split at p
      · rename_i bs e2
        obtain ⟨a, ws, rfl, h1, h2⟩ := lstOf_rep hS rx e
        have z := bls_rep h2 e2
        rw [z] at h1
        exact ⟨a, bs, rfl, h1, p.here hS (mk_bl _)⟩
      · exact p.elim
    · exact p.elim
  · exact p.elim
theorem sl_tuple : SndL (gm X T) (fun xs H Q => ∃ p ys, xs = [.ref p] ∧ ((SqL X.K H p ys ∧ ∀ l, H l = none → Q (.ref l) (upd H l (.tup ys))) ∨ (SqT X.K H p ys ∧ Q (.ref p) H))) fTuple := by
  intro W σ m S H xs vs Q hS r p
  unfold fTuple at p
  split at p
  · obtain ⟨v, rfl, rx⟩ := one_rep r
    obtain ⟨a, ws, rfl, h1, h2⟩ := tup_rep rx
    exact ⟨a, ws, rfl, .inr ⟨h1, p.here hS rx⟩⟩
  · obtain ⟨v, rfl, rx⟩ := one_rep r
    split at p
    · rename_i xs e
      split at p
      · rename_i z
        obtain ⟨a, ws, rfl, h1, h2⟩ := lstOf_rep hS rx e
        refine ⟨a, ws, rfl, .inl ⟨h1, (new_tup (W := W) (σ := σ) hS h2 ?_).2⟩⟩
        unfold mkTup
        rw [if_pos z]
        exact p
      · exact p.elim
    · exact p.elim
  · exact p.elim
theorem sl_list (mt : Bool) (hb : mt = true → Bare (gm X T)) : SndL (gm X T) (fun xs H Q => ∃ p ys, xs = [.ref p] ∧ (SqL X.K H p ys ∨ SqT X.K H p ys) ∧ ∀ l, H l = none → Q (.ref l) (upd H l (.lst ys))) (fList mt) := by
  intro W σ m S H xs vs Q hS r p
  unfold fList at p
  split at p
  · obtain ⟨v, rfl, rx⟩ := one_rep r
    split at p
    · rename_i xs e
      obtain ⟨a, ws, rfl, h1, h2⟩ := seqOf_rep hS rx e
      exact ⟨a, ws, rfl, h1, (new_lst hb hS h2 p).2⟩
    · exact p.elim
  · exact p.elim
theorem sl_max : SndL (gm X T) (fun xs H Q => ∃ i j, xs = [.int i, .int j] ∧ Q (.int (if j > i then j else i)) H) fMax := by
  intro W σ m S H xs vs Q hS r p
  unfold fMax at p
  split at p
  · obtain ⟨v, u, rfl, rx, ry⟩ := two_rep r
    cases rep_int rx
    cases rep_int ry
    exact ⟨_, _, rfl, p.here hS (mk_int _)⟩
  · exact p.elim
theorem sl_min : SndL (gm X T) (fun xs H Q => ∃ i j, xs = [.int i, .int j] ∧ Q (.int (if j < i then j else i)) H) fMin := by
  intro W σ m S H xs vs Q hS r p
  unfold fMin at p
  split at p
  · obtain ⟨v, u, rfl, rx, ry⟩ := two_rep r
    cases rep_int rx
    cases rep_int ry
    exact ⟨_, _, rfl, p.here hS (mk_int _)⟩
  · exact p.elim
theorem sqT_ty {K : PySem.W.Frag} {H : Hp} {a : Addr} {vs : List V} (h : SqT K H a vs) : TyX K H (.ref a) (.type "tuple") := by
  rcases h with (h | ⟨o, h⟩) | ⟨o, its, n, h, c, _⟩
  · exact .base (.tup h)
  · exact .fTuple h
  · exact .kTuple h c
theorem ty_rep {g : Gm} {m : Mm} {S : Sto} {H : Hp} {x : PV} {v : V} {a : String} (hS : RelS g m S H) (r : Rep g m H x v) (e : tyName x S = some a) : TyX g.K H v (.type a) := by
  have lst : (match lstT x S with | some _ => some "list" | none => none) = some a → TyX g.K H v (.type a) := fun e => by
    cases q : lstT x S with
    | none => rw [q] at e; cases e
    | some xs =>
      rw [q] at e
      cases e
      obtain ⟨b, vs, rfl, h, _⟩ := lstT_rep hS r q
      exact .base (.lst h)
  cases x with
  | non => cases e; rw [rep_non r]; exact .base .non
  | bl b => cases e; rw [rep_bl r]; exact .base (.bl b)
  | int b => cases e; rw [rep_int r]; exact .base (.int b)
  | str b => cases e; rw [rep_str r]; exact .base (.str b)
  | tup xs => cases e; obtain ⟨b, vs, rfl, h, _⟩ := tup_rep r; exact sqT_ty h
  | ct xs => cases e; obtain ⟨b, vs, rfl, h, _⟩ := ct_rep r; exact sqT_ty h
  | nd ks xs => cases e; unfold Rep at r; obtain ⟨b, vs, rfl, _, h, _⟩ := r; exact .base (.dK h)
  | _ => exact lst e
theorem sl_isi : SndL (gm X T) (rIsi X.K) fIsi := by
  intro W σ m S H xs vs Q hS r p
  unfold fIsi at p
  split at p
  · obtain ⟨v, u, rfl, rx, ry⟩ := two_rep r
    cases rep_ty ry
    split at p
    · rename_i a e
      split at p
      · rename_i b e2
        exact ⟨v, _, _, _, b, rfl, .ty _, ty_rep hS rx e, kit_ty e2, p.here hS (mk_bl _)⟩
      · exact p.elim
    · exact p.elim
  · exact p.elim
theorem sl_strI : SndL (gm X T) (fun xs H Q => ∃ i, xs = [.int i] ∧ i.natAbs.log2 < 1920 ∧ Q (.str (toString i)) H) fStrI := by
  intro W σ m S H xs vs Q hS r p
  unfold fStrI at p
  split at p
  · obtain ⟨v, rfl, rx⟩ := one_rep r
    cases rep_int rx
    split at p
    · rename_i h
      exact ⟨_, rfl, h, p.here hS (mk_str _)⟩
    · exact p.elim
  · exact p.elim
/-- repr of data, by values: no repr is under way -/
def rRepr (K : PySem.W.Frag) : List V → Hp → VK → Prop := fun xs H Q => ∃ x d, xs = [x] ∧ Dp K H x d ∧ d.showable = true ∧ d.hasDict = false ∧ d.depth ≤ 64 ∧ d.shown.length ≤ sizeLine ∧ Q (.str d.shown) H
theorem call_reprD (hg : X.A.guards = some []) (hu : X.A.units + 80 < cLine) : CallR X (.builtin "repr") (rRepr X.K) := by
  intro pins s σ H xs us Q I r h
  obtain ⟨x, d, rfl, hd, sh, hz, dp, ln, q⟩ := h
  obtain ⟨u, rfl, rx⟩ := vals1 r
  obtain ⟨as, rd⟩ := Dp.reads I d x u hd rx
  have big : ∀ a, u = Value.ref a → wpAny (model X.prog X.w) X.A (call (.builtin "repr") [u]) (EP X pins σ Q) X.xe s := fun a e => by
    subst e
    exact repr_of_reads' rd sh (PyData.noDict_hsm hz) hg (by omega) (fun _ _ e => e) (fun h' t tk hk => ⟨.str d.shown, H, I.kept hk, ⟨_, rfl⟩, q⟩) ln
  cases hd with
  | non =>
    cases rx
    refine PySem.P.repr_of_none ⟨.str (PyData.none).shown, H, I.tok _, ⟨s.toks, ?_⟩, q⟩
    simp only [PyData.shown]
  | bl b =>
    cases rx
    refine PySem.P.repr_of_bool ⟨.str (PyData.bool b).shown, H, I.tok _, ⟨s.toks, ?_⟩, q⟩
    simp only [PyData.shown] <;> (cases b <;> rfl)
  | int i =>
    obtain ⟨t, rfl⟩ := rx
    refine PySem.P.repr_of_int (by simpa only [PyData.showable, decide_eq_true_eq] using sh) ⟨.str (PyData.int i).shown, H, I.tok _, ⟨s.toks, ?_⟩, q⟩
    simp only [PyData.shown]
  | str y =>
    obtain ⟨t, rfl⟩ := rx
    refine PySem.P.repr_of_str ⟨.str (PyData.str y).shown, H, I.tok _, ⟨s.toks, ?_⟩, q⟩ (by simpa only [PyData.shown] using ln)
    simp only [PyData.shown]
  | lst h1 h2 => exact big _ rx
  | tup h1 h2 => exact big _ rx
mutual
theorem toD_noDict : ∀ (x : PV) (d : PyData), toD x = some d → d.hasDict = false
  | .non, d, e => by unfold toD at e; cases e; simp only [PyData.hasDict]
  | .bl b, d, e => by unfold toD at e; cases e; simp only [PyData.hasDict]
  | .int b, d, e => by unfold toD at e; cases e; simp only [PyData.hasDict]
  | .str b, d, e => by unfold toD at e; cases e; simp only [PyData.hasDict]
  | .tup xs, d, e => by
    unfold toD at e
    cases q : toDL xs with
    | none => rw [q] at e; cases e
    | some ds => rw [q] at e; cases e; simp only [PyData.hasDict]; exact toDL_noDict xs ds q
  | .ct xs, d, e => by
    unfold toD at e
    cases q : toDL xs with
    | none => rw [q] at e; cases e
    | some ds => rw [q] at e; cases e; simp only [PyData.hasDict]; exact toDL_noDict xs ds q
  | .nl xs, d, e => by
    unfold toD at e
    cases q : toDL xs with
    | none => rw [q] at e; cases e
    | some ds => rw [q] at e; cases e; simp only [PyData.hasDict]; exact toDL_noDict xs ds q
  | .fl xs, d, e => by
    unfold toD at e
    cases q : toDL xs with
    | none => rw [q] at e; cases e
    | some ds => rw [q] at e; cases e; simp only [PyData.hasDict]; exact toDL_noDict xs ds q
  | .nd _ _, _, e => by unfold toD at e; cases e
  | .ref _, _, e => by unfold toD at e; cases e
  | .ty _, _, e => by unfold toD at e; cases e
  | .glb _, _, e => by unfold toD at e; cases e
  | .err, _, e => by unfold toD at e; cases e
  | .lam, _, e => by unfold toD at e; cases e
theorem toDL_noDict : ∀ (xs : List PV) (ds : List PyData), toDL xs = some ds → PyData.hasDictAll ds = false
  | [], ds, e => by unfold toDL at e; cases e; simp only [PyData.hasDictAll]
  | x :: xs, ds, e => by
    unfold toDL at e
    cases q1 : toD x with
    | none => rw [q1] at e; cases e
    | some d =>
      cases q2 : toDL xs with
      | none => rw [q1, q2] at e; cases e
      | some es => rw [q1, q2] at e; cases e; simp only [PyData.hasDictAll, toD_noDict x d q1, toDL_noDict xs es q2, Bool.or_self]
end
theorem toDS_noDict {x : PV} {S : Sto} {d : PyData} (e : toDS x S = some d) : d.hasDict = false := by
  cases x with
  | ref n =>
    simp only [toDS] at e
    cases q : S[n]? with
    | none => rw [q] at e; cases e
    | some o =>
      cases o with
      | lst xs =>
        rw [q] at e
        have e : (toDL xs).map PyData.list = some d := e
        cases q2 : toDL xs with
        | none => rw [q2] at e; cases e
        | some ds => rw [q2] at e; cases e; simp only [PyData.hasDict]; exact toDL_noDict xs ds q2
      | dT ks => rw [q] at e; cases e
      | fz ks => rw [q] at e; cases e
  | _ => exact toD_noDict _ d e
theorem sl_repr : SndL (gm X T) (rRepr X.K) fRepr := by
  intro W σ m S H xs vs Q hS r p
  unfold fRepr at p
  split at p
  · obtain ⟨v, rfl, rx⟩ := one_rep r
    split at p
    · rename_i d e
      split at p
      · rename_i h
        exact ⟨v, d, rfl, dpS_of hS rx e, h.1, toDS_noDict e, h.2.1, lim_line h.2.2, p.here hS (mk_str _)⟩
      · exact p.elim
    · exact p.elim
  · exact p.elim
/-- x in a list of data -/
def fInD (neg : Bool) (x y : PV) (S : Sto) : Res PV := match toDS x S, toDS y S with
  | some d, some (.list ds) => if SeqAt.shaped d = true ∧ SeqAt.shaped (.list ds) = true then .ok (.bl (if neg = true then !(ds.any fun z => PyData.eqv z d) else ds.any fun z => PyData.eqv z d)) S else .bad
  | _, _ => .bad
theorem sn_inD : Snd (gm X T) (rInD X.K) (fInD false) := by
  intro W σ m S H x y v u Q hS rx ry p
  unfold fInD at p
  split at p
  · rename_i d ds h1 h2
    split at p
    · rename_i h
      exact ⟨d, ds, dpS_of hS rx h1, dpS_of hS ry h2, h.1, h.2, p.here hS (mk_bl _)⟩
    · exact p.elim
  · exact p.elim
theorem sn_notInD : Snd (gm X T) (rNotInD X.K) (fInD true) := by
  intro W σ m S H x y v u Q hS rx ry p
  unfold fInD at p
  split at p
  · rename_i d ds h1 h2
    split at p
    · rename_i h
      exact ⟨d, ds, dpS_of hS rx h1, dpS_of hS ry h2, h.1, h.2, p.here hS (mk_bl _)⟩
    · exact p.elim
  · exact p.elim
end
/-! ### xs.append(e) -/
def fApp (n : Nat) (y : PV) (S : Sto) : Res PV := match S[n]? with
  | some (SO.lst xs) => if xs.length < lim then .ok .non (S.set n (SO.lst (xs ++ [y]))) else .bad
  | _ => .bad
def dApp (d : EnP → Sto → Res PV) (dl : EnP → Sto → Res (List PV)) : EnP → Sto → Res PV := fun ρ S => (d ρ S).bind fun x S1 => match x with
  | .ref n => (match S1[n]? with
    | some (SO.lst _) => (dl ρ S1).bind fun ys S2 => (match ys with
      | [y] => fApp n y S2
      | _ => .bad)
    | _ => .bad)
  | _ => .bad
section
variable {X : Cx} {T : Tb} {W : WX} {o e : Expr} {es : List Expr} {d : EnP → Sto → Res PV} {dl : EnP → Sto → Res (List PV)} {apos cpos : Pos}
theorem ref_rep {g : Gm} {m : Mm} {S : Sto} {H : Hp} {n : Nat} {v : V} {xs : List PV} (hS : RelS g m S H) (r : Rep g m H (.ref n) v) (e : S[n]? = some (SO.lst xs)) : ∃ a vs, m.ix[n]? = some a ∧ v = .ref a ∧ H a = some (HO.lst vs) ∧ RepL g m H xs vs := by
  obtain ⟨a, u, f1, f2, vs, rfl, f3⟩ := hS.at_ n _ e
  unfold Rep at r
  obtain ⟨b, e1, e2⟩ := r
  rw [f1] at e1; cases e1
  exact ⟨a, vs, f1, e2, f2, RepL.up _ _ f3⟩
theorem ref_any {g : Gm} {m : Mm} {S : Sto} {H : Hp} {n : Nat} {v : V} {xs : List PV} (hS : RelS g m S H) (r : Rep g m H (.ref n) v) (e : S[n]? = some (SO.lst xs)) : ∃ a vs, m.ix[n]? = some a ∧ v = .ref a ∧ H a = some (HO.lst vs) ∧ RepL g m H xs vs := ref_rep hS r e
theorem ce_app (hb : Bare (gm X T)) (ho : CE X T W o d) (ha : CA X T W (e :: es) dl)
    (hbase : attributeBase o "append" X.env (eval o X.env) = eval o X.env := by rfl)
    (hfew : ((backTo cpos (starEach (e :: es) X.env)).all (fun x => !x.1) && (backToKw cpos (keywordEach [] X.env)).all (fun x => x.1.isSome)
      && decide ((e :: es).length + ([] : List Keyword).length + (if ([] : List Keyword).isEmpty then 0 else 1) < 30)) = true := by rfl)
    (hline : (apos.endLine == cpos.line) = true := by rfl) (hs : starEach (e :: es) X.env = (false, eval e X.env) :: starEach es X.env := by rfl) (hplain : (backTo cpos (starEach es X.env)).any (·.1) = false := by rfl) :
    CE X T W (.Call (.Attribute o "append" apos) (e :: es) [] cpos) (dApp d dl) :=
  pe_imp (pe_bm PySem.F.plainAttrs_list PySem.F.slot_list_append PySem.F.type_list_append mt_append ho ha hbase hfew hline hs hplain) fun σ H Q ⟨ρ, S, m, hE, hS, p⟩ =>
    tr_bind (f := fun (x : PV) (ρ : EnP) (S1 : Sto) => match x with | .ref n => (match S1[n]? with | some (SO.lst _) => (dl ρ S1).bind fun ys S2 => (match ys with | [y] => fApp n y S2 | _ => .bad) | _ => .bad) | _ => .bad) hE hS p fun x S1 m1 H1 w s1 hE1 hS1 hr1 p1 => by
      cases x with
      | ref n =>
        have p1 : PostV (gm X T) W σ m1 H1 Q (match S1[n]? with | some (SO.lst _) => (dl ρ S1).bind fun ys S2 => (match ys with | [y] => fApp n y S2 | _ => .bad) | _ => .bad) := p1
        split at p1
        case h_2 => exact p1.elim
        rename_i xs0 e0
        obtain ⟨a, vs0, e1, rfl, f2, _⟩ := ref_any hS1 hr1 e0
        refine ⟨.inl ⟨rfl, vs0, .inl (.inl f2)⟩, tr_bind (f := fun (ys : List PV) (ρ : EnP) (S2 : Sto) => match ys with | [y] => fApp n y S2 | _ => .bad) hE1 hS1 p1 fun ys S2 m2 H2 ws s2 hE2 hS2 hr2 p2 => ?_⟩
        split at p2
        · rename_i y
          obtain ⟨u, rfl, ru⟩ := one_rep hr2
          unfold fApp at p2
          split at p2
          · rename_i xs e3
            split at p2
            · rename_i hl
              obtain ⟨a', vs, g1, g2, g3, g4⟩ := ref_rep hS2 (hr1.step s2) e3
              cases g2
              have hn2 : n < S2.length := (List.getElem?_eq_some_iff.mp e3).1
              refine ⟨a, vs, u, rfl, rfl, g3, ?_, ?_⟩
              · rw [sizeLine_eq, ← g4.length]; exact hl
              · exact p2 m2 _ _ (step_write (List.mem_of_getElem? g1) g3) (hS2.write hb g1 hn2 g3 (g4.append (RepL.cons ru RepL.nil))) mk_non
            · exact p2.elim
          · exact p2.elim
        · exact p2.elim
      | _ => exact p1.elim
end
end Mi
end
section
set_option Elab.async false
set_option linter.all false
set_option maxRecDepth 100000
set_option maxHeartbeats 2000000
namespace Mi
open PySem PySem.Spec PyProof.Rows L2

/-! ### statements -/
/-- an expression's answer within a block -/
def sE {α : Type} (r : Res α) (ρ : EnP) (k : α → Sto → SR) : SR := match r with
  | .ok a S => k a S
  | .exc c fs S => .exc c fs ρ S
  | .bad => .bad
@[simp] theorem sE_ok {α : Type} (a : α) (S : Sto) (ρ : EnP) (k : α → Sto → SR) : sE (.ok a S) ρ k = k a S := rfl
@[simp] theorem sE_exc {α : Type} (c : Str) (fs : List (Str × PV)) (S : Sto) (ρ : EnP) (k : α → Sto → SR) : sE (.exc c fs S) ρ k = .exc c fs ρ S := rfl
@[simp] theorem sE_bad {α : Type} (ρ : EnP) (k : α → Sto → SR) : sE .bad ρ k = .bad := rfl
theorem ts_bind {α β : Type} {g : Gm} {W : WX} {R : Mm → Hp → α → β → Prop} {d : EnP → Sto → Res α} {k : α → Sto → SR} {D : Ends} {σ : L2.St} {H : Hp} {ρ : EnP} {S : Sto} {m : Mm} (hE : RelE g m H ρ σ) (hS : RelS g m S H) (p : PostS g W D m H (sE (d ρ S) ρ k)) {Q1 : β → Hp → Prop}
    (h : ∀ a S1 m1 H1 w, Step m H m1 H1 → RelE g m1 H1 ρ σ → RelS g m1 S1 H1 → R m1 H1 a w → PostS g W D m1 H1 (k a S1) → Q1 w H1) : tr g W R d σ H Q1 := by
  refine ⟨ρ, S, m, hE, hS, ?_⟩
  cases hd : d ρ S with
  | ok a S1 =>
    rw [hd] at p
    exact fun m' H' w s h1 h2 => h a S1 m' H' w s (hE.step s) h1 h2 (PostS.step s p)
  | exc c fs S1 =>
    rw [hd] at p
    exact fun m' H' cls dd s h1 h2 => p m' H' σ cls dd s h1 (hE.step s) h2
  | bad =>
    rw [hd] at p
    exact p.elim
theorem PostS.nx_here {g : Gm} {W : WX} {D : Ends} {m : Mm} {H : Hp} {ρ : EnP} {S : Sto} {σ : L2.St} (p : PostS g W D m H (.nx ρ S)) (hS : RelS g m S H) (hE : RelE g m H ρ σ) : D.nx σ H := p m H σ (Step.refl m H) hS hE
def dExpr (d : EnP → Sto → Res PV) : EnP → Sto → SR := fun ρ S => sE (d ρ S) ρ fun _ S1 => .nx ρ S1
def dRet (d : EnP → Sto → Res PV) : EnP → Sto → SR := fun ρ S => sE (d ρ S) ρ fun v S1 => .rt v S1
def dRetN : EnP → Sto → SR := fun _ S => .rt .non S
def dPass : EnP → Sto → SR := fun ρ S => .nx ρ S
def dBreak : EnP → Sto → SR := fun ρ S => .bk ρ S
def dCont : EnP → Sto → SR := fun ρ S => .ct ρ S
def dSeq (d1 d2 : EnP → Sto → SR) : EnP → Sto → SR := fun ρ S => match d1 ρ S with
  | .nx ρ' S' => d2 ρ' S'
  | r => r
def dIfS (dc : EnP → Sto → Res Bool) (d1 d2 : EnP → Sto → SR) : EnP → Sto → SR := fun ρ S => sE (dc ρ S) ρ fun b S1 => if b = true then d1 ρ S1 else d2 ρ S1
def dSet (i : Nat) (d : EnP → Sto → Res PV) : EnP → Sto → SR := fun ρ S => sE (d ρ S) ρ fun v S1 => .nx (ρ.set i (some v)) S1
def dPar (i j : Nat) (dl : EnP → Sto → Res (List PV)) : EnP → Sto → SR := fun ρ S => sE (dl ρ S) ρ fun vs S1 => match vs with
  | [v, w] => .nx ((ρ.set i (some v)).set j (some w)) S1
  | _ => .bad
def dPar3 (i j l : Nat) (dl : EnP → Sto → Res (List PV)) : EnP → Sto → SR := fun ρ S => sE (dl ρ S) ρ fun vs S1 => match vs with
  | [u, v, w] => .nx (((ρ.set i (some u)).set j (some v)).set l (some w)) S1
  | _ => .bad
/-- a target -/
abbrev DG := PV → EnP → Sto → Res EnP
def tgt (g : Gm) (W : WX) (d : DG) : TG := fun v σ H Q => ∃ x ρ S m, Rep g m H x v ∧ RelE g m H ρ σ ∧ RelS g m S H ∧ PostR g W σ m H (fun m' H' ρ' σ' => RelE g m' H' ρ' σ') Q (d x ρ S)
abbrev CG (X : Cx) (T : Tb) (W : WX) (tg : Expr) (d : DG) : Prop := PG X tg (tgt (gm X T) W d)
abbrev DGs := List PV → EnP → Sto → Res EnP
def tgts (g : Gm) (W : WX) (d : DGs) : TGs := fun vs σ H Q => ∃ xs ρ S m, RepL g m H xs vs ∧ RelE g m H ρ σ ∧ RelS g m S H ∧ PostR g W σ m H (fun m' H' ρ' σ' => RelE g m' H' ρ' σ') Q (d xs ρ S)
abbrev CGs (X : Cx) (T : Tb) (W : WX) (tg : List Expr) (d : DGs) : Prop := PGs X tg (tgts (gm X T) W d)
def gNm (i : Nat) : DG := fun x ρ S => .ok (ρ.set i (some x)) S
def gsNil : DGs := fun xs ρ S => match xs with
  | [] => .ok ρ S
  | _ => .bad
def gsCons (d : DG) (ds : DGs) : DGs := fun xs ρ S => match xs with
  | x :: r => (d x ρ S).bind fun ρ' S' => ds r ρ' S'
  | [] => .bad
def gTp (n : Nat) (ds : DGs) : DG := fun x ρ S => match x with
  | .tup xs => if xs.length = n then ds xs ρ S else .bad
  | _ => .bad
/-- o[i] = x -/
def setIx (x : PV) (ρ : EnP) (o i : PV) (S2 : Sto) : Res EnP := match o, i with
  | .ref n, .int k => (match S2[n]? with
    | some (SO.lst xs) => (match ixN xs.length k with
      | some j => .ok ρ (S2.set n (SO.lst (xs.set j x)))
      | none => .bad)
    | _ => .bad)
  | _, _ => .bad
def gIx (do_ di : EnP → Sto → Res PV) : DG := fun x ρ S => (do_ ρ S).bind fun o S1 => (di ρ S1).bind fun i S2 => setIx x ρ o i S2
def dAsg (d : EnP → Sto → Res PV) (dg : DG) : EnP → Sto → SR := fun ρ S => sE (d ρ S) ρ fun v S1 => sE (dg v ρ S1) ρ fun ρ' S2 => .nx ρ' S2
def dAug (i : Nat) (f : PV → PV → Sto → Res PV) (d : EnP → Sto → Res PV) : EnP → Sto → SR := fun ρ S => match ρ[i]? with
  | some (some x) => sE (d ρ S) ρ fun y S1 => sE (f x y S1) ρ fun z S2 => .nx (ρ.set i (some z)) S2
  | _ => .bad
theorem pg_imp {X : Cx} {e : Expr} {t t' : TG} (h : PG X e t) (w : ∀ v σ H Q, t' v σ H Q → t v σ H Q) : PG X e t' := ⟨fun pins s σ H v u Q I r q => h.run pins s σ H v u Q I r (w v σ H Q q)⟩
theorem pgs_imp {X : Cx} {e : List Expr} {t t' : TGs} (h : PGs X e t) (w : ∀ v σ H Q, t' v σ H Q → t v σ H Q) : PGs X e t' := ⟨fun pins s σ H v u Q I r q => h.run pins s σ H v u Q I r (w v σ H Q q)⟩
section
variable {X : Cx} {T : Tb} {W : WX} {pos : Pos} {e : Expr} {d : EnP → Sto → Res PV} {st : Stmt} {rest : List Stmt} {d1 d2 : EnP → Sto → SR}
theorem css_nil : CSs X T W [] dPass := pss_imp pss_nil fun D σ H ⟨ρ, S, m, hE, hS, p⟩ => p.nx_here hS hE
theorem css_cons (h1 : CS X T W st d1) (h2 : CSs X T W rest d2) : CSs X T W (st :: rest) (dSeq d1 d2) :=
  pss_imp (pss_cons h1 h2) fun D σ H ⟨ρ, S, m, hE, hS, p⟩ => by
    refine ⟨ρ, S, m, hE, hS, ?_⟩
    unfold dSeq at p
    cases hd : d1 ρ S with
    | nx ρ' S' =>
      rw [hd] at p
      exact fun m' H' σ' s h3 h4 => ⟨ρ', S', m', h4, h3, PostS.step s p⟩
    | rt v S' => rw [hd] at p; exact p
    | bk ρ' S' => rw [hd] at p; exact p
    | ct ρ' S' => rw [hd] at p; exact p
    | exc c fs ρ' S' => rw [hd] at p; exact p
    | bad => rw [hd] at p; exact p
theorem css_one (h1 : CS X T W st d1) : CSs X T W [st] d1 := pss_one h1
theorem cs_pass : CS X T W (.Pass pos) dPass := ps_imp ps_pass fun D σ H ⟨ρ, S, m, hE, hS, p⟩ => p.nx_here hS hE
theorem cs_break : CS X T W (.Break pos) dBreak := ps_imp ps_break fun D σ H ⟨ρ, S, m, hE, hS, p⟩ => p m H σ (Step.refl m H) hS hE
theorem cs_cont : CS X T W (.Continue pos) dCont := ps_imp ps_continue fun D σ H ⟨ρ, S, m, hE, hS, p⟩ => p m H σ (Step.refl m H) hS hE
theorem cs_expr (h : CE X T W e d) (hs : swapsWith e none pos.line X.env = pure false := by rfl) : CS X T W (.Expr e pos) (dExpr d) :=
  ps_imp (ps_expr h hs) fun D σ H ⟨ρ, S, m, hE, hS, p⟩ => ts_bind (k := fun _ S1 => .nx ρ S1) hE hS p fun a S1 m1 H1 w s1 hE1 hS1 hr p1 => p1.nx_here hS1 hE1
theorem cs_ret (h : CE X T W e d) : CS X T W (.Return (some e) pos) (dRet d) :=
  ps_imp (ps_ret h) fun D σ H ⟨ρ, S, m, hE, hS, p⟩ => ts_bind (k := fun v S1 => .rt v S1) hE hS p fun a S1 m1 H1 w s1 hE1 hS1 hr p1 => p1 m1 H1 w (Step.refl _ _) hS1 hr
theorem cs_retN : CS X T W (.Return none pos) dRetN := ps_imp ps_retN fun D σ H ⟨ρ, S, m, hE, hS, p⟩ => p m H .non (Step.refl _ _) hS mk_non
theorem cs_if {c : Expr} {dc : EnP → Sto → Res Bool} {a b : List Stmt} (hc : CT X T W c dc) (ha : CSs X T W a d1) (hb : CSs X T W b d2) : CS X T W (.If c a b pos) (dIfS dc d1 d2) :=
  ps_imp (ps_if hc ha hb) fun D σ H ⟨ρ, S, m, hE, hS, p⟩ => ts_bind (k := fun b S1 => if b = true then d1 ρ S1 else d2 ρ S1) hE hS p fun b S1 m1 H1 w s1 hE1 hS1 hr p1 => by
    cases hr
    cases b with
    | true => rw [if_pos rfl] at p1 ⊢; exact ⟨ρ, S1, m1, hE1, hS1, p1⟩
    | false => rw [if_neg Bool.false_ne_true] at p1 ⊢; exact ⟨ρ, S1, m1, hE1, hS1, p1⟩
theorem cs_set {i : Nat} {x : Str} {pos' : Pos} (hN : X.N.Nodup) (hi : X.N[i]? = some x) (hx : Loc X.env.scope x) (he : CE X T W e d) (hs : swapsWith e (some (.Name x pos')) pos.line X.env = pure false := by rfl)
    (hf : X.fn x = true ∨ X.env.scope.names.lookup x = some .local := by first | exact .inl rfl | exact .inr rfl | assumption) : CS X T W (.Assign [.Name x pos'] e pos) (dSet i d) :=
  ps_imp (ps_set hN hi hx he hs hf) fun D σ H ⟨ρ, S, m, hE, hS, p⟩ => ts_bind (k := fun v S1 => .nx (ρ.set i (some v)) S1) hE hS p fun a S1 m1 H1 w s1 hE1 hS1 hr p1 => p1.nx_here hS1 (hE1.set i hr)
theorem cs_par {i j : Nat} {x y : Str} {a b : Expr} {dl : EnP → Sto → Res (List PV)} {px py pt : Pos} {kt k2 pt2} (hc : X.calm = true) (hN : X.N.Nodup) (hi : X.N[i]? = some x) (hj : X.N[j]? = some y) (hij : i ≠ j)
    (hx : X.env.scope.names.lookup x = some .local) (hy : X.env.scope.names.lookup y = some .local) (ha : CA X T W [a, b] dl)
    (hw : swappedStores [.Tuple [.Name x px, .Name y py] kt pt] (.Tuple [a, b] k2 pt2) X.env = pure (some [x, y]))
    (hs : swapsWithSole [.Tuple [.Name x px, .Name y py] kt pt] (.Tuple [a, b] k2 pt2) pos.line X.env = pure false := by rfl) :
    CS X T W (.Assign [.Tuple [.Name x px, .Name y py] kt pt] (.Tuple [a, b] k2 pt2) pos) (dPar i j dl) :=
  ps_imp (ps_par hc hN hi hj hij hx hy ha hw hs) fun D σ H ⟨ρ, S, m, hE, hS, p⟩ => ts_bind (k := fun vs S1 => match vs with | [v, w] => .nx ((ρ.set i (some v)).set j (some w)) S1 | _ => .bad) hE hS p fun vs S1 m1 H1 ws s1 hE1 hS1 hr p1 => by
    split at p1
    · obtain ⟨v, u, rfl, r1, r2⟩ := two_rep hr
      exact ⟨v, u, rfl, p1.nx_here hS1 ((hE1.set i r1).set j r2)⟩
    · exact p1.elim
theorem three_rep {g : Gm} {m : Mm} {H : Hp} {x y z : PV} {vs : List V} (r : RepL g m H [x, y, z] vs) : ∃ v u w, vs = [v, u, w] ∧ Rep g m H x v ∧ Rep g m H y u ∧ Rep g m H z w := by
  unfold RepL at r
  obtain ⟨v, ws, rfl, h, r⟩ := r
  obtain ⟨u, w, rfl, h2, h3⟩ := two_rep r
  exact ⟨v, u, w, rfl, h, h2, h3⟩
theorem cs_par3 {i j l : Nat} {x y z : Str} {a b c : Expr} {dl : EnP → Sto → Res (List PV)} {px py pz pt : Pos} {kt k2 pt2} (hc : X.calm = true) (hN : X.N.Nodup) (hi : X.N[i]? = some x) (hj : X.N[j]? = some y) (hl : X.N[l]? = some z) (hij : i ≠ j) (hil : i ≠ l) (hjl : j ≠ l)
    (hx : X.env.scope.names.lookup x = some .local) (hy : X.env.scope.names.lookup y = some .local) (hz : X.env.scope.names.lookup z = some .local) (ha : CA X T W [a, b, c] dl)
    (hw : swappedStores [.Tuple [.Name x px, .Name y py, .Name z pz] kt pt] (.Tuple [a, b, c] k2 pt2) X.env = pure (some [x, y, z]))
    (hs : swapsWithSole [.Tuple [.Name x px, .Name y py, .Name z pz] kt pt] (.Tuple [a, b, c] k2 pt2) pos.line X.env = pure false := by rfl) :
    CS X T W (.Assign [.Tuple [.Name x px, .Name y py, .Name z pz] kt pt] (.Tuple [a, b, c] k2 pt2) pos) (dPar3 i j l dl) :=
  ps_imp (ps_par3 hc hN hi hj hl hij hil hjl hx hy hz ha hw hs) fun D σ H ⟨ρ, S, m, hE, hS, p⟩ => ts_bind (k := fun vs S1 => match vs with | [u, v, w] => .nx (((ρ.set i (some u)).set j (some v)).set l (some w)) S1 | _ => .bad) hE hS p fun vs S1 m1 H1 ws s1 hE1 hS1 hr p1 => by
    split at p1
    · obtain ⟨v, u, w, rfl, r1, r2, r3⟩ := three_rep hr
      exact ⟨v, u, w, rfl, p1.nx_here hS1 (((hE1.set i r1).set j r2).set l r3)⟩
    · exact p1.elim
/-! targets -/
theorem cg_name {i : Nat} {x : Str} (hN : X.N.Nodup) (hi : X.N[i]? = some x) (hx : Loc X.env.scope x) (hf : X.fn x = true ∨ X.env.scope.names.lookup x = some .local := by first | exact .inl rfl | exact .inr rfl | assumption) : CG X T W (.Name x pos) (gNm i) :=
  pg_imp (pg_name hN hi hx hf) fun v σ H Q ⟨x, ρ, S, m, hr, hE, hS, p⟩ => PostR.here (a := ρ.set i (some x)) p hS (hE.set i hr)
theorem cgs_nil : CGs X T W [] gsNil := pgs_imp pgs_nil fun vs σ H Q ⟨xs, ρ, S, m, hr, hE, hS, p⟩ => by
  unfold gsNil at p
  split at p
  · unfold RepL at hr
    exact ⟨hr, PostR.here (a := ρ) p hS hE⟩
  · exact p.elim
/-- an exception that a target raises is told at the slots ahead of it -/
def Flat (W : WX) : Prop := ∀ c d σ σ' H, W c d σ H → W c d σ' H
theorem cgs_cons {e : Expr} {es : List Expr} {dg : DG} {ds : DGs} (fw : Flat W) (h1 : CG X T W e dg) (h2 : CGs X T W es ds) (hs : (assignEach (e :: es) X.env).map (·.2) = assign e X.env :: (assignEach es X.env).map (·.2) := by rfl) : CGs X T W (e :: es) (gsCons dg ds) :=
  pgs_imp (pgs_cons h1 h2 hs) fun vs σ H Q ⟨xs, ρ, S, m, hr, hE, hS, p⟩ => by
    unfold gsCons at p
    split at p
    · rename_i x r
      unfold RepL at hr
      obtain ⟨v, ws, rfl, r1, r2⟩ := hr
      refine ⟨v, ws, rfl, x, ρ, S, m, r1, hE, hS, ?_⟩
      cases hd : dg x ρ S with
      | ok ρ' S' =>
        rw [hd] at p
        refine fun m' H' σ' s h3 h4 => ⟨r, ρ', S', m', r2.step s, h4, h3, ?_⟩
        have p2 : PostR (gm X T) W σ m H (fun m' H' ρ' σ' => RelE (gm X T) m' H' ρ' σ') Q (ds r ρ' S') := p
        have p3 := PostR.step s p2
        cases hq : ds r ρ' S' with
        | ok a S2 => rw [hq] at p3; exact p3
        | exc c fs S2 => rw [hq] at p3; exact fun m2 H2 cls dd s2 h5 h6 => fw _ _ σ σ' _ (p3 m2 H2 cls dd s2 h5 h6)
        | bad => rw [hq] at p3; exact p3
      | exc c fs S' => rw [hd] at p; exact p
      | bad => rw [hd] at p; exact p.elim
    · exact p.elim
theorem cg_tup {es : List Expr} {k : Nat} {ds : DGs} {n : Nat} (hc : X.calm = true) (h : CGs X T W es ds) (hn : (assignEach es X.env).length = n := by rfl) (hst : (assignEach es X.env).findIdx? (·.1) = none := by rfl) : CG X T W (.Tuple es k pos) (gTp n ds) :=
  pg_imp (pg_tup hc h hn hst) fun v σ H Q ⟨x, ρ, S, m, hr, hE, hS, p⟩ => by
    cases x with
    | tup xs =>
      simp only [gTp] at p
      split at p
      · rename_i hl
        obtain ⟨a, vs, rfl, h1, h2⟩ := tup_rep hr
        exact ⟨a, vs, rfl, h1, by rw [← h2.length]; exact hl, xs, ρ, S, m, h2, hE, hS, p⟩
      · exact p.elim
    | _ => exact p.elim
theorem cg_ix {o i : Expr} {do_ di : EnP → Sto → Res PV} (hb : Bare (gm X T)) (ho : CE X T W o do_) (hi : CE X T W i di)
    (ha : ∀ v, assign (.Subscript o i pos) X.env v = (do
      let ov ← holding [v] (eval o X.env)
      let iv ← holding [v, ov] (eval i X.env)
      standAt pos
      holding [v, ov, iv] (setItem ov iv v)
      release [v, ov, iv] []) := by intro _; rfl) : CG X T W (.Subscript o i pos) (gIx do_ di) :=
  pg_imp (pg_sub ho hi set_list ha) fun v σ H Q ⟨x, ρ, S, m, hr, hE, hS, p⟩ =>
    tr_bind (R' := fun m' H' ρ' σ' => RelE (gm X T) m' H' ρ' σ') (f := fun (o : PV) (_ : EnP) (S1 : Sto) => (di ρ S1).bind fun i S2 => setIx x ρ o i S2) hE hS p fun o S1 m1 H1 w s1 hE1 hS1 hr1 p1 =>
    tr_bind (R' := fun m' H' ρ' σ' => RelE (gm X T) m' H' ρ' σ') (f := fun (i : PV) (_ : EnP) (S2 : Sto) => setIx x ρ o i S2) hE1 hS1 p1 fun i S2 m2 H2 w2 s2 hE2 hS2 hr2 p2 => by
      cases o with
      | ref n =>
        cases i with
        | int k =>
          cases rep_int hr2
          have p2 : PostR (gm X T) W σ m2 H2 (fun m' H' ρ' σ' => RelE (gm X T) m' H' ρ' σ') Q (match S2[n]? with
            | some (SO.lst xs) => (match ixN xs.length k with
              | some j => Res.ok ρ (S2.set n (SO.lst (xs.set j x)))
              | none => .bad)
            | _ => .bad) := p2
          split at p2
          · rename_i xs e
            split at p2
            · rename_i j ej
              obtain ⟨a, vs, g1, rfl, g3, g4⟩ := ref_rep hS2 (hr1.step s2) e
              have hn2 : n < S2.length := (List.getElem?_eq_some_iff.mp e).1
              refine ⟨a, vs, k, j, rfl, rfl, g3, by rw [← g4.length]; exact ej, ?_⟩
              have st := step_write (us := vs.set j v) (List.mem_of_getElem? g1) g3
              exact p2 m2 _ _ st (hS2.write hb g1 hn2 g3 (g4.set ((hr.step s1).step s2) j)) (hE2.step st)
            · exact p2.elim
          · exact p2.elim
        | _ => exact p2.elim
      | _ => exact p2.elim
theorem cs_asg {tg : Expr} {dg : DG} (he : CE X T W e d) (hg : CG X T W tg dg) (hs : swapsWithSole [tg] e pos.line X.env = pure false := by rfl) (hw : swappedStores [tg] e X.env = pure none := by rfl)
    (h1 : (assignEach [tg] X.env).map (·.2) = [assign tg X.env] := by rfl) : CS X T W (.Assign [tg] e pos) (dAsg d dg) :=
  ps_imp (ps_asg he hg hs hw h1) fun D σ H ⟨ρ, S, m, hE, hS, p⟩ => ts_bind (k := fun v S1 => sE (dg v ρ S1) ρ fun ρ' S2 => .nx ρ' S2) hE hS p fun a S1 m1 H1 w s1 hE1 hS1 hr p1 => by
    refine ⟨a, ρ, S1, m1, hr, hE1, hS1, ?_⟩
    cases hd : dg a ρ S1 with
    | ok ρ' S' => rw [hd] at p1; exact fun m' H' σ' s h3 h4 => p1 m' H' σ' s h3 h4
    | exc c fs S' => rw [hd] at p1; exact fun m' H' cls dd s h3 h4 => p1 m' H' σ cls dd s h3 (hE1.step s) h4
    | bad => rw [hd] at p1; exact p1.elim
theorem cs_aug {i : Nat} {x : Str} {op : Operator} {f : PV → PV → Sto → Res PV} {r : R2} {pos' : Pos} (hN : X.N.Nodup) (hi : X.N[i]? = some x) (hx : Loc X.env.scope x) (he : CE X T W e d) (ho : OpR X (inplaceOp op) r) (hs : Snd (gm X T) r f)
    (hf : X.fn x = true ∨ X.env.scope.names.lookup x = some .local := by first | exact .inl rfl | exact .inr rfl | assumption) : CS X T W (.AugAssign (.Name x pos') op e pos) (dAug i f d) :=
  ps_imp (ps_aug (ti := r) hN hi hx he ho hf) fun D σ H ⟨ρ, S, m, hE, hS, p⟩ => by
    unfold dAug at p
    split at p
    · rename_i v ev
      obtain ⟨w, e1, e2⟩ := hE.at_ i v ev
      refine ⟨w, e1, ts_bind (k := fun y S1 => sE (f v y S1) ρ fun z S2 => .nx (ρ.set i (some z)) S2) hE hS p fun y S1 m1 H1 u s1 hE1 hS1 hr p1 => ?_⟩
      refine hs W σ m1 S1 H1 v y w u _ hS1 (e2.step s1) hr ?_
      cases hd : f v y S1 with
      | ok z S2 => rw [hd] at p1; exact fun m' H' w' s h3 h4 => p1 m' H' _ s h3 ((hE1.step s).set i h4)
      | exc c fs S2 => rw [hd] at p1; exact fun m' H' cls dd s h3 h4 => p1 m' H' σ cls dd s h3 (hE1.step s) h4
      | bad => rw [hd] at p1; exact p1.elim
    · exact p.elim
end

/-! ### while -/
def whileP (dc : EnP → Sto → Res Bool) (db : EnP → Sto → SR) : Nat → EnP → Sto → SR
  | 0, _, _ => .bad
  | n + 1, ρ, S => sE (dc ρ S) ρ fun b S1 => if b = true then (match db ρ S1 with
      | .nx ρ' S' => whileP dc db n ρ' S'
      | .ct ρ' S' => whileP dc db n ρ' S'
      | .bk ρ' S' => .nx ρ' S'
      | r => r) else .nx ρ S1
theorem cs_while {X : Cx} {T : Tb} {W : WX} {pos : Pos} {c : Expr} {body : List Stmt} {dc : EnP → Sto → Res Bool} {db : EnP → Sto → SR} (n : Nat) (hp : PassesOwn (model X.prog X.w) X.A X.env X.xe) (hc : CT X T W c dc) (hb : CSs X T W body db) :
    CS X T W (.While c body [] pos) (whileP dc db n) :=
  ps_imp (ps_while hp hc hb) fun D σ H ⟨ρ, S, m, hE, hS, p⟩ => by
    refine ⟨fun n σ H => ∃ ρ S m, RelE (gm X T) m H ρ σ ∧ RelS (gm X T) m S H ∧ PostS (gm X T) W D m H (whileP dc db n ρ S), ⟨n, ρ, S, m, hE, hS, p⟩, ?_⟩
    rintro n σ H ⟨ρ, S, m, hE, hS, p⟩
    cases n with
    | zero => exact p.elim
    | succ n =>
      unfold whileP at p
      refine ts_bind (k := fun b S1 => if b = true then (match db ρ S1 with
        | .nx ρ' S' => whileP dc db n ρ' S'
        | .ct ρ' S' => whileP dc db n ρ' S'
        | .bk ρ' S' => .nx ρ' S'
        | r => r) else .nx ρ S1) hE hS p fun b S1 m1 H1 w s1 hE1 hS1 hr p1 => ?_
      cases hr
      cases b with
      | false =>
        rw [if_neg Bool.false_ne_true] at p1 ⊢
        exact p1.nx_here hS1 hE1
      | true =>
        rw [if_pos rfl] at p1 ⊢
        refine ⟨fun σ H => ∃ ρ S m, RelE (gm X T) m H ρ σ ∧ RelS (gm X T) m S H ∧ PostS (gm X T) W D m H (whileP dc db n ρ S), fun σ' H' h => ⟨n, Nat.lt_succ_self n, h⟩, ρ, S1, m1, hE1, hS1, ?_⟩
        cases hd : db ρ S1 with
        | nx ρ' S' => rw [hd] at p1; exact fun m' H' σ' s h3 h4 => ⟨ρ', S', m', h4, h3, PostS.step s p1⟩
        | ct ρ' S' => rw [hd] at p1; exact fun m' H' σ' s h3 h4 => ⟨ρ', S', m', h4, h3, PostS.step s p1⟩
        | bk ρ' S' => rw [hd] at p1; exact p1
        | rt v S' => rw [hd] at p1; exact p1
        | exc c fs ρ' S' => rw [hd] at p1; exact p1
        | bad => rw [hd] at p1; exact p1

/-! ### for -/
/-- an iterator that yields these items, whatever happens to the store -/
structure ItOk (g : Gm) (J : It) (items : List PV) (m₀ : Mm) (H₀ : Hp) : Prop where
  go : ∀ m H S i x, Emb m₀ H₀ m H → RelS g m S H → items[i]? = some x → J.go i H ∧ ∀ v H', J.yld i H v H' → Step m H m H' ∧ RelS g m S H' ∧ Rep g m H' x v
  stop : ∀ m H S i, Emb m₀ H₀ m H → RelS g m S H → items.length = i → J.stop i H
theorem Emb.trans {m m1 m2 : Mm} {H H1 H2 : Hp} (a : Emb m H m1 H1) (b : Emb m1 H1 m2 H2) : Emb m H m2 H2 :=
  ⟨fun n x h => b.get n x (a.get n x h), fun x o h e n => have q := a.keep x o h e n; b.keep x o q.1 q.2 n, fun x xs e => b.tup x xs (a.tup x xs e), fun x o u e => b.frz x o u (a.frz x o u e)⟩
theorem ItOk.step {g : Gm} {J : It} {items : List PV} {m m1 : Mm} {H H1 : Hp} (s : Step m H m1 H1) (k : ItOk g J items m H) : ItOk g J items m1 H1 :=
  ⟨fun m' H' S i x s' => k.go m' H' S i x (s.emb.trans s'), fun m' H' S i s' => k.stop m' H' S i (s.emb.trans s')⟩
abbrev CI (X : Cx) (T : Tb) (W : WX) (tg iter : Expr) (d : EnP → Sto → Res (List PV)) : Prop := PI X tg iter (tr (gm X T) W (fun m' H' items J => ItOk (gm X T) J items m' H') d)
theorem pi_imp {X : Cx} {tg e : Expr} {t t' : TI} (h : PI X tg e t) (w : ∀ σ H R, t' σ H R → t σ H R) : PI X tg e t' := ⟨fun pins s σ H R I q => h.run pins s σ H R I (w σ H R q)⟩
def forP (dg : DG) (db : EnP → Sto → SR) : List PV → EnP → Sto → SR
  | [], ρ, S => .nx ρ S
  | x :: xs, ρ, S => sE (dg x ρ S) ρ fun ρ1 S1 => (match db ρ1 S1 with
      | .nx ρ' S' => forP dg db xs ρ' S'
      | .ct ρ' S' => forP dg db xs ρ' S'
      | .bk ρ' S' => .nx ρ' S'
      | r => r)
def dFor (di : EnP → Sto → Res (List PV)) (dg : DG) (db : EnP → Sto → SR) : EnP → Sto → SR := fun ρ S => sE (di ρ S) ρ fun items S1 => forP dg db items ρ S1
theorem cs_for {X : Cx} {T : Tb} {W : WX} {pos : Pos} {tg iter : Expr} {body : List Stmt} {di : EnP → Sto → Res (List PV)} {dg : DG} {db : EnP → Sto → SR} (hp : PassesOwn (model X.prog X.w) X.A X.env X.xe) (hc : X.calm = true)
    (hi : CI X T W tg iter di) (hg : CG X T W tg dg) (hb : CSs X T W body db) (hs : ∀ x, foldedSetIterable iter X.env x = pure x := by intro _; rfl) : CS X T W (.For tg iter body [] pos) (dFor di dg db) :=
  ps_imp (ps_for hp hc hi hg hb hs) fun D σ H ⟨ρ, S, m, hE, hS, p⟩ => ts_bind (k := fun items S1 => forP dg db items ρ S1) hE hS p fun items S1 m1 H1 J s1 hE1 hS1 hJ p1 => by
    refine ⟨fun i n σ H => ∃ ρ S m, Step m1 H1 m H ∧ RelE (gm X T) m H ρ σ ∧ RelS (gm X T) m S H ∧ (n = items.length - i ∧ i ≤ items.length) ∧ PostS (gm X T) W D m H (forP dg db (items.drop i) ρ S), ⟨_, ρ, S1, m1, Step.refl _ _, hE1, hS1, ⟨rfl, Nat.zero_le _⟩, p1⟩, ?_⟩
    rintro i n σ2 H2 ⟨ρ2, S2, m2, s2, hE2, hS2, ⟨rfl, hle⟩, p2⟩
    by_cases hlt : i < items.length
    · right
      have ei : items[i]? = some items[i] := List.getElem?_eq_getElem hlt
      obtain ⟨hgo, hy⟩ := hJ.go m2 H2 S2 i items[i] s2.emb hS2 ei
      refine ⟨hgo, fun σ H => ∃ ρ S m, Step m1 H1 m H ∧ RelE (gm X T) m H ρ σ ∧ RelS (gm X T) m S H ∧ PostS (gm X T) W D m H (forP dg db (items.drop (i + 1)) ρ S), fun σ' H' ⟨ρ', S', m', a, b, c, d⟩ => ⟨items.length - (i + 1), by omega, ρ', S', m', a, b, c, ⟨rfl, hlt⟩, d⟩, fun v H3 y => ?_⟩
      obtain ⟨s3, hS3, hr3⟩ := hy v H3 y
      rw [List.drop_eq_getElem_cons hlt] at p2
      unfold forP at p2
      refine ⟨items[i], ρ2, S2, m2, hr3, hE2.step s3, hS3, ?_⟩
      have p3 := PostS.step s3 p2
      cases hd : dg items[i] ρ2 S2 with
      | ok ρ' S' =>
        rw [hd] at p3
        refine fun m4 H4 σ4 s4 hS4 hE4 => ⟨ρ', S', m4, hE4, hS4, ?_⟩
        have p4 := PostS.step s4 (show PostS (gm X T) W D m2 H3 (match db ρ' S' with
          | .nx ρ' S' => forP dg db (items.drop (i + 1)) ρ' S'
          | .ct ρ' S' => forP dg db (items.drop (i + 1)) ρ' S'
          | .bk ρ' S' => .nx ρ' S'
          | r => r) from p3)
        have s24 : Step m1 H1 m4 H4 := (s2.trans s3).trans s4
        cases hq : db ρ' S' with
        | nx ρ5 S5 => rw [hq] at p4; exact fun m5 H5 σ5 s5 h5 h6 => ⟨ρ5, S5, m5, s24.trans s5, h6, h5, PostS.step s5 p4⟩
        | ct ρ5 S5 => rw [hq] at p4; exact fun m5 H5 σ5 s5 h5 h6 => ⟨ρ5, S5, m5, s24.trans s5, h6, h5, PostS.step s5 p4⟩
        | bk ρ5 S5 => rw [hq] at p4; exact p4
        | rt v5 S5 => rw [hq] at p4; exact p4
        | exc c fs ρ5 S5 => rw [hq] at p4; exact p4
        | bad => rw [hq] at p4; exact p4
      | exc c fs S' => rw [hd] at p3; exact fun m4 H4 cls dd s4 h4 h5 => p3 m4 H4 σ2 cls dd s4 h4 ((hE2.step s3).step s4) h5
      | bad => rw [hd] at p3; exact p3.elim
    · left
      refine ⟨hJ.stop m2 H2 S2 i s2.emb hS2 (by omega), ?_⟩
      rw [List.drop_eq_nil_of_le (by omega)] at p2
      exact PostS.nx_here p2 hS2 hE2
end Mi
end
section
set_option Elab.async false
set_option linter.all false
set_option maxRecDepth 100000
set_option maxHeartbeats 2000000
namespace Mi
open PySem PySem.Spec PyProof.Rows L2

/-! ### what is walked -/
def srcP : PV → Option (List PV)
  | .tup xs => some xs
  | .ct xs => some xs
  | .nl xs => some xs
  | .fl xs => some xs
  | _ => none
def srcT : PV → Bool
  | .tup _ => true
  | .ct _ => true
  | _ => false
def SqX (K : PySem.W.Frag) (b : Bool) (H : Hp) (a : Addr) (vs : List V) : Prop := if b = true then SqT K H a vs else SqL K H a vs
theorem src_rep {g : Gm} {m : Mm} {H : Hp} {x : PV} {v : V} {xs : List PV} (r : Rep g m H x v) (e : srcP x = some xs) : ∃ a vs, v = .ref a ∧ SqX g.K (srcT x) H a vs ∧ RepL g m H xs vs := by
  cases x with
  | tup ys =>
    cases e
    obtain ⟨a, vs, e, h1, h2⟩ := tup_rep r
    exact ⟨a, vs, e, h1, h2⟩
  | ct ys =>
    cases e
    obtain ⟨a, vs, e, h1, h2⟩ := ct_rep r
    exact ⟨a, vs, e, h1, h2⟩
  | nl ys =>
    cases e
    unfold Rep at r
    obtain ⟨a, vs, e, _, h1, h2⟩ := r
    exact ⟨a, vs, e, .inl (.inl h1), h2⟩
  | fl ys =>
    cases e
    unfold Rep at r
    obtain ⟨a, vs, e, h1, h2⟩ := r
    refine ⟨a, vs, e, ?_, h2⟩
    rcases h1 with ⟨o, h1⟩ | h1
    · exact .inl (.inr ⟨o, h1⟩)
    · rcases h1 with h1 | h1
      · rcases h1 with h1 | ⟨o, h1⟩ <;> cases h1
      · exact .inr h1
  | _ => cases e
def It1 (K : PySem.W.Frag) (b : Bool) (a : Addr) : It := if b = true then Itt K a else Itl K a
theorem itOk_src {g : Gm} {m : Mm} {H : Hp} {x : PV} {a : Addr} {xs : List PV} (r : Rep g m H x (.ref a)) (e : srcP x = some xs) : ItOk g (It1 g.K (srcT x) a) xs m H := by
  refine ⟨fun m1 H1 S i y s hS ey => ?_, fun m1 H1 S i s hS hl => ?_⟩
  · obtain ⟨b, vs, eb, h1, h2⟩ := src_rep (Rep.emb s _ _ r) e
    cases eb
    obtain ⟨w, ew, rw_⟩ := h2.get ey
    unfold It1
    unfold SqX at h1
    cases hb : srcT x with
    | true =>
      rw [hb, if_pos rfl] at h1
      rw [if_pos rfl]
      refine ⟨⟨vs, w, h1, ew⟩, fun v H' ⟨eH, hv⟩ => ?_⟩
      subst eH
      have q := hv vs h1
      rw [ew] at q
      cases q
      exact ⟨Step.refl _ _, hS, rw_⟩
    | false =>
      rw [hb, if_neg Bool.false_ne_true] at h1
      rw [if_neg Bool.false_ne_true]
      refine ⟨⟨vs, w, h1, ew⟩, fun v H' ⟨eH, hv⟩ => ?_⟩
      subst eH
      have q := hv vs h1
      rw [ew] at q
      cases q
      exact ⟨Step.refl _ _, hS, rw_⟩
  · obtain ⟨b, vs, eb, h1, h2⟩ := src_rep (Rep.emb s _ _ r) e
    cases eb
    unfold It1
    unfold SqX at h1
    cases hb : srcT x with
    | true =>
      rw [hb, if_pos rfl] at h1
      rw [if_pos rfl]
      exact ⟨vs, h1, by rw [← h2.length]; exact Nat.le_of_eq hl⟩
    | false =>
      rw [hb, if_neg Bool.false_ne_true] at h1
      rw [if_neg Bool.false_ne_true]
      exact ⟨vs, h1, by rw [← h2.length]; exact Nat.le_of_eq hl⟩
/-- the signs of a text -/
def signs (s : Str) : List PV := s.cps.toList.map fun c => .str ⟨#[c]⟩
theorem itOk_str {g : Gm} {m : Mm} {H : Hp} (s : Str) : ItOk g (Its s) (signs s) m H := by
  refine ⟨fun m1 H1 S i y st hS ey => ?_, fun m1 H1 S i st hS hl => ?_⟩
  · unfold signs at ey
    rw [List.getElem?_map] at ey
    cases e : s.cps.toList[i]? with
    | none => rw [e] at ey; cases ey
    | some c =>
      rw [e] at ey
      cases ey
      have e2 : s.cps[i]? = some c := by rw [← Array.getElem?_toList]; exact e
      have hl : i < s.cps.size := by
        have := (Array.getElem?_eq_some_iff.mp e2).1
        exact this
      refine ⟨hl, fun v H' ⟨eH, c', hc, ev⟩ => ?_⟩
      subst eH
      rw [e2] at hc
      cases hc
      rw [ev]
      exact ⟨Step.refl _ _, hS, mk_str _⟩
  · unfold signs at hl
    rw [List.length_map, Array.length_toList] at hl
    exact Nat.le_of_eq hl
def walkP (x : PV) : Option (List PV) := match x with
  | .str s => some (signs s)
  | x => srcP x
def iSeq (d : EnP → Sto → Res PV) : EnP → Sto → Res (List PV) := fun ρ S => (d ρ S).bind fun x S1 => match walkP x with
  | some xs => .ok xs S1
  | none => .bad
theorem pi_or {X : Cx} {tg e : Expr} {t1 t2 : TI} (h1 : PI X tg e t1) (h2 : PI X tg e t2) : PI X tg e (fun σ H R => t1 σ H R ∨ t2 σ H R) := ⟨fun pins s σ H R I h => by
  rcases h with h | h
  · exact h1.run pins s σ H R I h
  · exact h2.run pins s σ H R I h⟩
/-- tr_bind, the first reading's own answer known -/
theorem tr_bindE {α β α' β' : Type} {g : Gm} {W : WX} {R : Mm → Hp → α → β → Prop} {R' : Mm → Hp → α' → β' → Prop} {d : EnP → Sto → Res α} {f : α → EnP → Sto → Res α'} {σ : L2.St} {H : Hp} {Q : β' → Hp → Prop} {ρ : EnP} {S : Sto} {m : Mm}
    (hE : RelE g m H ρ σ) (hS : RelS g m S H) (p : PostR g W σ m H R' Q ((d ρ S).bind fun a S1 => f a ρ S1)) {Q1 : β → Hp → Prop}
    (h : ∀ a S1 m1 H1 w, d ρ S = .ok a S1 → Step m H m1 H1 → RelE g m1 H1 ρ σ → RelS g m1 S1 H1 → R m1 H1 a w → PostR g W σ m1 H1 R' Q (f a ρ S1) → Q1 w H1) : tr g W R d σ H Q1 := by
  refine ⟨ρ, S, m, hE, hS, ?_⟩
  cases hd : d ρ S with
  | ok a S1 =>
    rw [hd] at p
    exact fun m' H' w s h1 h2 => h a S1 m' H' w hd s (hE.step s) h1 h2 (PostR.step s p)
  | exc c fs S1 =>
    rw [hd] at p
    exact fun m' H' cls dd s h1 h2 => p m' H' cls dd s h1 h2
  | bad =>
    rw [hd] at p
    exact p.elim
section
variable {X : Cx} {T : Tb} {W : WX} {pos tpos p : Pos} {e e2 tg : Expr} {d d2 : EnP → Sto → Res PV} {dl : EnP → Sto → Res (List PV)}
theorem ci_seq (h : CE X T W e d) : CI X T W tg e (iSeq d) :=
  pi_imp (pi_or (pi_or (pi_tup h) (pi_list h)) (pi_str h)) fun σ H R ⟨ρ, S, m, hE, hS, p⟩ => by
    cases hd : d ρ S with
    | bad =>
      unfold iSeq at p
      rw [hd] at p
      exact p.elim
    | exc c fs S1 =>
      refine .inl (.inl ?_)
      exact tr_bindE (f := fun (x : PV) (_ : EnP) (S1 : Sto) => match walkP x with | some xs => Res.ok xs S1 | none => .bad) hE hS p fun a S1 m1 H1 w ed => by rw [hd] at ed; cases ed
    | ok x0 S0 =>
      have go : ∀ (b : Bool), srcT x0 = b → (∀ s, x0 ≠ .str s) → tv (gm X T) W d σ H fun x H1 => ∃ a, x = .ref a ∧ (∃ xs, SqX X.K b H1 a xs) ∧ R (It1 X.K b a) H1 := fun b hb hn =>
        tr_bindE (f := fun (x : PV) (_ : EnP) (S1 : Sto) => match walkP x with | some xs => Res.ok xs S1 | none => .bad) hE hS p fun a S1 m1 H1 w ed s1 hE1 hS1 hr1 p1 => by
          rw [hd] at ed
          cases ed
          have ew : walkP x0 = srcP x0 := by
            cases x0 with
            | str s => exact absurd rfl (hn s)
            | _ => rfl
          cases es : srcP x0 with
          | none => rw [ew, es] at p1; exact p1.elim
          | some xs =>
            rw [ew, es] at p1
            obtain ⟨a, vs, rfl, h1, h2⟩ := src_rep hr1 es
            refine ⟨a, rfl, ⟨vs, by rw [← hb]; exact h1⟩, ?_⟩
            have q := itOk_src hr1 es
            rw [hb] at q
            exact PostR.here (a := xs) p1 hS1 q
      cases x0 with
      | tup xs =>
        refine .inl (.inl ?_)
        have := go true rfl (fun s z => by cases z)
        exact this
      | ct xs =>
        refine .inl (.inl ?_)
        have := go true rfl (fun s z => by cases z)
        exact this
      | str s =>
        refine .inr ?_
        refine tr_bindE (f := fun (x : PV) (_ : EnP) (S1 : Sto) => match walkP x with | some xs => Res.ok xs S1 | none => .bad) hE hS p fun a S1 m1 H1 w ed s1 hE1 hS1 hr1 p1 => ?_
        rw [hd] at ed
        cases ed
        exact ⟨s, rep_str hr1, PostR.here (a := signs s) p1 hS1 (itOk_str s)⟩
      | nl xs => exact .inl (.inr (go false rfl (fun s z => by cases z)))
      | fl xs => exact .inl (.inr (go false rfl (fun s z => by cases z)))
      | _ =>
        unfold iSeq at p
        rw [hd] at p
        exact p.elim
/-! range -/
def upTo (lo : Int) (n : Nat) : List PV := (List.range n).map fun i => .int (lo + (i : Nat))
theorem itOk_rng {g : Gm} {m : Mm} {H : Hp} (lo : Int) (n : Nat) : ItOk g (Itr lo n) (upTo lo n) m H := by
  refine ⟨fun m1 H1 S i y st hS ey => ?_, fun m1 H1 S i st hS hl => ?_⟩
  · unfold upTo at ey
    rw [List.getElem?_map] at ey
    by_cases hi : i < n
    · rw [List.getElem?_range hi] at ey
      cases ey
      refine ⟨hi, fun v H' ⟨eH, ev⟩ => ?_⟩
      subst eH
      rw [ev]
      exact ⟨Step.refl _ _, hS, mk_int _⟩
    · rw [List.getElem?_eq_none (by simpa using hi)] at ey
      cases ey
  · unfold upTo at hl
    rw [List.length_map, List.length_range] at hl
    exact Nat.le_of_eq hl
def iRange (dl : EnP → Sto → Res (List PV)) : EnP → Sto → Res (List PV) := fun ρ S => (dl ρ S).bind fun xs S1 => match xs with
  | [.int j] => if -1000000 ≤ j ∧ j ≤ 1000000 then .ok (upTo 0 j.toNat) S1 else .bad
  | [.int i, .int j] => if -1000000 ≤ i ∧ i ≤ 1000000 ∧ -1000000 ≤ j ∧ j ≤ 1000000 then .ok (upTo i (j - i).toNat) S1 else .bad
  | _ => .bad
theorem ci_range1 (hg : Gl X "range") (hm : X.mg "range" = none) (ha : CA X T W [e] dl) (hs : starEach [e] X.env = [(false, eval e X.env)] := by rfl) (hl : ∀ ρ S xs S1, dl ρ S = .ok xs S1 → xs.length = 1) : CI X T W tg (.Call (.Name "range" p) [e] [] pos) (iRange dl) :=
  pi_imp (pi_range1 hg hm ha hs) fun σ H R ⟨ρ, S, m, hE, hS, p⟩ =>
    tr_bindE (f := fun (xs : List PV) (_ : EnP) (S1 : Sto) => match xs with
      | [.int j] => if -1000000 ≤ j ∧ j ≤ 1000000 then Res.ok (upTo 0 j.toNat) S1 else .bad
      | [.int i, .int j] => if -1000000 ≤ i ∧ i ≤ 1000000 ∧ -1000000 ≤ j ∧ j ≤ 1000000 then .ok (upTo i (j - i).toNat) S1 else .bad
      | _ => .bad) hE hS p fun xs S1 m1 H1 ws ed s1 hE1 hS1 hr1 p1 => by
      have el := hl _ _ _ _ ed
      split at p1
      · rename_i j
        split at p1
        · rename_i h
          obtain ⟨v, rfl, r1⟩ := one_rep hr1
          cases rep_int r1
          exact ⟨j, rfl, by omega, by omega, PostR.here (a := upTo 0 j.toNat) p1 hS1 (itOk_rng 0 j.toNat)⟩
        · exact p1.elim
      · simp at el
      · exact p1.elim
theorem ci_range2 (hg : Gl X "range") (hm : X.mg "range" = none) (ha : CA X T W [e, e2] dl) (hs : starEach [e, e2] X.env = [(false, eval e X.env), (false, eval e2 X.env)] := by rfl) (hs2 : starEach [e2] X.env = [(false, eval e2 X.env)] := by rfl) (hl : ∀ ρ S xs S1, dl ρ S = .ok xs S1 → xs.length = 2) : CI X T W tg (.Call (.Name "range" p) [e, e2] [] pos) (iRange dl) :=
  pi_imp (pi_range2 hg hm ha hs hs2) fun σ H R ⟨ρ, S, m, hE, hS, p⟩ =>
    tr_bindE (f := fun (xs : List PV) (_ : EnP) (S1 : Sto) => match xs with
      | [.int j] => if -1000000 ≤ j ∧ j ≤ 1000000 then Res.ok (upTo 0 j.toNat) S1 else .bad
      | [.int i, .int j] => if -1000000 ≤ i ∧ i ≤ 1000000 ∧ -1000000 ≤ j ∧ j ≤ 1000000 then .ok (upTo i (j - i).toNat) S1 else .bad
      | _ => .bad) hE hS p fun xs S1 m1 H1 ws ed s1 hE1 hS1 hr1 p1 => by
      have el := hl _ _ _ _ ed
      split at p1
      · simp at el
      · rename_i i j
        split at p1
        · rename_i h
          obtain ⟨v, u, rfl, r1, r2⟩ := two_rep hr1
          cases rep_int r1
          cases rep_int r2
          exact ⟨i, j, rfl, ⟨by omega, by omega, by omega, by omega⟩, PostR.here (a := upTo i (j - i).toNat) p1 hS1 (itOk_rng i _)⟩
        · exact p1.elim
      · exact p1.elim
end
theorem dNil_len {ρ : EnP} {S S1 : Sto} {xs : List PV} (h : dNil ρ S = .ok xs S1) : xs.length = 0 := by cases h; rfl
theorem dCons_len {da : EnP → Sto → Res PV} {dr : EnP → Sto → Res (List PV)} {n : Nat} (hr : ∀ ρ S xs S1, dr ρ S = .ok xs S1 → xs.length = n) : ∀ ρ S xs S1, dCons da dr ρ S = .ok xs S1 → xs.length = n + 1 := fun ρ S xs S1 h => by
  unfold dCons at h
  cases e1 : da ρ S with
  | bad => rw [e1] at h; cases h
  | exc c fs S2 => rw [e1] at h; cases h
  | ok x S2 =>
    rw [e1] at h
    have h : (dr ρ S2).bind (fun xs S2 => Res.ok (x :: xs) S2) = .ok xs S1 := h
    cases e2 : dr ρ S2 with
    | bad => rw [e2] at h; cases h
    | exc c fs S3 => rw [e2] at h; cases h
    | ok ys S3 =>
      rw [e2] at h
      cases h
      rw [List.length_cons, hr _ _ _ _ e2]
theorem len1 {da : EnP → Sto → Res PV} : ∀ ρ S xs S1, dCons da dNil ρ S = .ok xs S1 → xs.length = 1 := dCons_len fun _ _ _ _ h => dNil_len h
theorem len2 {da db : EnP → Sto → Res PV} : ∀ ρ S xs S1, dCons da (dCons db dNil) ρ S = .ok xs S1 → xs.length = 2 := dCons_len len1
end Mi
end
section
set_option Elab.async false
set_option linter.all false
set_option maxRecDepth 100000
set_option maxHeartbeats 2000000
namespace Mi
open PySem PySem.Spec PyProof.Rows L2

/-! ### zip of two, each a list or a tuple -/
def ItZ (K : PySem.W.Frag) (b1 b2 : Bool) (a1 a2 : Addr) : It :=
  ⟨fun i H => ∃ (xs ys : List V) (x y : V), SqX K b1 H a1 xs ∧ SqX K b2 H a2 ys ∧ xs[i]? = some x ∧ ys[i]? = some y,
    fun i H v H' => ∃ T x y, v = .ref T ∧ H T = none ∧ H' = upd H T (.tup [x, y]) ∧ (∀ xs, SqX K b1 H a1 xs → xs[i]? = some x) ∧ ∀ ys, SqX K b2 H a2 ys → ys[i]? = some y,
    fun i H => ∃ xs ys : List V, SqX K b1 H a1 xs ∧ SqX K b2 H a2 ys ∧ i ≤ xs.length ∧ i ≤ ys.length ∧ (xs.length = i ∨ ys.length = i)⟩
def itAt (b : Bool) (h : Heap) (it a : Addr) (i : Nat) : Prop := if b = true then h.IsTupleIter it a i else h.IsListIter it a i
theorem itAt.keep {b : Bool} {h h' : Heap} {it a : Addr} {i : Nat} (x : itAt b h it a i) (k : ∀ o, h.get? it = some o → h'.get? it = some o) : itAt b h' it a i := by
  unfold itAt at x ⊢
  cases b with
  | true => rw [if_pos rfl] at x ⊢; exact x.at k
  | false => rw [if_neg Bool.false_ne_true] at x ⊢; exact x.at k
theorem itAt.obj {b : Bool} {h : Heap} {it a : Addr} {i : Nat} (x : itAt b h it a i) : ∃ o, h.get? it = some o ∧ ∀ v, o.data ≠ .cell v := by
  unfold itAt at x
  cases b with
  | true => rw [if_pos rfl] at x; obtain ⟨o, e, _, d⟩ := x; exact ⟨o, e, fun v z => by rw [d] at z; cases z⟩
  | false => rw [if_neg Bool.false_ne_true] at x; obtain ⟨o, e, _, d⟩ := x; exact ⟨o, e, fun v z => by rw [d] at z; cases z⟩
/-- a source, and its iterator, drawn from -/
theorem draws_of {X : Cx} {pins : List (Addr × Obj)} {σ : L2.St} {H : Hp} {s : Shared} {b : Bool} {a it : Addr} {vs : List V} (hh : X.A.handled = none) (I : Inv X pins σ H s) (h : SqX X.K b H a vs) (hne : a ≠ it) :
    ∃ (its : List Value) (St : Nat → Heap → Prop), Vals vs its ∧ a < s.heap.objs.size ∧ Draws X.prog X.w X.A.in1 it [it, a] its.toArray.size (fun i v => its.toArray[i]? = some v) St ∧
      (∀ i, itAt b s.heap it a i → St i s.heap) ∧ ∀ i h', St i h' → itAt b h' it a i := by
  unfold SqX at h
  cases b with
  | true =>
    rw [if_pos rfl] at h
    obtain ⟨its, rv, p, _⟩ := I.tuple h
    have p2 : s.heap.IsTuple a its.toArray := p
    obtain ⟨o, ho, _⟩ := id p
    refine ⟨its, _, rv, Heap.lt_size ho, Draws.tuple (A := X.A.in1) hh it a hne its.toArray, fun i z => ⟨?_, p2⟩, fun i h' z => ?_⟩
    · unfold itAt at z; rw [if_pos rfl] at z; exact z
    · unfold itAt; rw [if_pos rfl]; exact z.1
  | false =>
    rw [if_neg Bool.false_ne_true] at h
    obtain ⟨its, rv, p, _⟩ := I.list h
    refine ⟨its, _, rv, p.lt, Draws.list (A := X.A.in1) hh it a hne its.toArray, fun i z => ⟨?_, p.isList⟩, fun i h' z => ?_⟩
    · unfold itAt at z; rw [if_neg Bool.false_ne_true] at z; exact z
    · unfold itAt; rw [if_neg Bool.false_ne_true]; exact z.1
theorem sqX_inj {X : Cx} {pins : List (Addr × Obj)} {σ : L2.St} {H : Hp} {s : Shared} {b : Bool} {a : Addr} {xs ys : List V} (I : Inv X pins σ H s) (h : SqX X.K b H a xs) (h' : SqX X.K b H a ys) : xs = ys := by
  unfold SqX at h h'
  cases b with
  | true => rw [if_pos rfl] at h h'; exact I.tuple_inj h h'
  | false => rw [if_neg Bool.false_ne_true] at h h'; exact I.list_inj h h'
theorem sep_of {a b z TI TO i1 i2 : Addr} (D : ZipApart z TI TO i1 i2 a b) : ZipSep2 z TI TO i1 i2 [i1, a] [i2, b] :=
  { TIz := D.TIz, TOz := D.TOz, TITO := D.TITO, TIi1 := D.TIi1, mem1 := by simp, zf1 := by simp [Ne.symm D.i1z, Ne.symm D.l1z], Tf1 := by simp [D.TOi1, Ne.symm D.l1TO],
    TIi2 := D.TIi2, mem2 := by simp, zf2 := by simp [Ne.symm D.i2z, Ne.symm D.l2z], Tf2 := by simp [D.TOi2, Ne.symm D.l2TO], sep1_2 := by simp [D.i12, Ne.symm D.l2i1], sep2_1 := by simp [Ne.symm D.i12, Ne.symm D.l1i2] }
theorem turn_Z {P : Program} {w : World} {K : PySem.W.Frag} {elts : List Expr} {kk : Nat} {tpos : Pos} {b1 b2 : Bool} {a b z TI TO i1 i2 : Addr} (D : ZipApart z TI TO i1 i2 a b) :
    Turn P w K (.Tuple elts kk tpos) (ItZ K b1 b2 a b) [z, TI, TO, i1, i2] z (fun i h => IsZip h z TI TO .none ∧ IsPair h TI (.ref i1) (.ref i2) ∧ (∃ x y, IsPair h TO x y) ∧ itAt b1 h i1 a i ∧ itAt b2 h i2 b i) where
  mem := by simp
  obj := fun i h st c hc => by
    obtain ⟨hz, hTI, ⟨x, y, hTO⟩, h1, h2⟩ := st
    have e' : c = z ∨ c = TI ∨ c = TO ∨ c = i1 ∨ c = i2 := by simpa using hc
    rcases e' with q | q | q | q | q
    · rw [q]; exact ⟨_, hz, fun v q => nomatch q⟩
    · rw [q]; exact ⟨_, hTI, fun v q => nomatch q⟩
    · rw [q]; exact ⟨_, hTO, fun v q => nomatch q⟩
    · rw [q]; exact h1.obj
    · rw [q]; exact h2.obj
  keep := fun i h h' st k => by
    obtain ⟨hz, hTI, ⟨x, y, hTO⟩, h1, h2⟩ := st
    exact ⟨k z (by simp) _ hz, k TI (by simp) _ hTI, ⟨x, y, k TO (by simp) _ hTO⟩, h1.keep fun o q => k i1 (by simp) o q, h2.keep fun o q => k i2 (by simp) o q⟩
  item := by
    intro X hP hw hK hc i pins s σ H E I hf st hg
    subst hP hw hK
    obtain ⟨hz, hTI, ⟨x0, y0, hTO⟩, h1, h2⟩ := st
    obtain ⟨xs, ys, x, y, hqx, hqy, hx, hy⟩ := hg
    obtain ⟨its, St1, rv, la, D1, in1, out1⟩ := draws_of (it := i1) (I.ok.hd hc) I hqx D.l1i1
    obtain ⟨its2, St2, rv2, lb, D2, in2, out2⟩ := draws_of (it := i2) (I.ok.hd hc) I hqy D.l2i2
    obtain ⟨u, hu, ru⟩ := rv.get hx
    obtain ⟨u2, hu2, ru2⟩ := rv2.get hy
    have hzl : z < s.heap.objs.size := Heap.lt_size hz
    have n1 : i < its.toArray.size := by
      rw [List.size_toArray, ← rv.length]
      exact (List.getElem?_eq_some_iff.mp hx).1
    have n2 : i < its2.toArray.size := by
      rw [List.size_toArray, ← rv2.length]
      exact (List.getElem?_eq_some_iff.mp hy).1
    refine wpAny_pyNext_zipD2_item (sep_of D) D1 D2 hz hTI hTO (in1 i h1) (in2 i h2) n1 n2 fun x1 x2 h' tk e1 e2 z' TO' st1' st2' hT hsz hk => ?_
    have ex1 : x1 = u := by
      have q : its.toArray[i]? = some u := by simpa using hu
      rw [q] at e1
      cases e1
      rfl
    have ex2 : x2 = u2 := by
      have q : its2.toArray[i]? = some u2 := by simpa using hu2
      rw [q] at e2
      cases e2
      rfl
    subst ex1 ex2
    refine ⟨_, rfl, wpAny_letOwnedTupleGo_zip (s := { s with heap := h', toks := tk }) z' fun h'' z'' sb => ?_⟩
    have hT2 : h''.get? s.heap.objs.size = some { cls := .type "tuple", data := .seq #[x1, x2] } := (sb.2 _ (Nat.ne_of_gt hzl)).trans hT
    have new : ObjOk X.prog X.w (upd H s.heap.objs.size (.tup [x, y])) h'' s.heap.objs.size (.tup [x, y]) :=
      ⟨by show 2 ≤ sizeLine; decide, [x1, x2], .cons ru (.cons ru2 .nil), ⟨_, hT2, rfl, _, rfl⟩⟩
    have I1 : Inv X pins σ (upd H s.heap.objs.size (.tup [x, y])) { s with heap := h'', toks := tk } :=
      I.turnedNew (t' := tk) (ch := [z, TI, TO, i1, i2]) (fun c o hb q => (sb.2 c (fun q' => hb (by simp [q']))).trans (hk c o (fun q' => hb (by simp [q'])) (fun q' => hb (by simp [q'])) (fun q' => hb (by simp [q'])) (fun q' => hb (by simp [q'])) q)) hf (Nat.le_refl _) new
    refine ⟨.ref s.heap.objs.size, _, I1, rfl, ⟨_, x, y, rfl, I.hok.fresh (Nat.le_refl _), rfl, fun l hl => by rw [sqX_inj I hl hqx]; exact hx, fun l hl => by rw [sqX_inj I hl hqy]; exact hy⟩, ⟨z'', ?_, ⟨x1, x2, ?_⟩, ?_, ?_⟩, fun c hcm => ?_⟩
    · exact (sb.2 _ D.TIz).trans (hk _ _ D.TIz D.TITO D.TIi1 D.TIi2 hTI)
    · exact (sb.2 _ D.TOz).trans TO'
    · exact (out1 _ _ st1').keep fun o q => (sb.2 _ D.i1z).trans q
    · exact (out2 _ _ st2').keep fun o q => (sb.2 _ D.i2z).trans q
    · have hlt : c < s.heap.objs.size := by
        have e' : c = z ∨ c = TI ∨ c = TO ∨ c = i1 ∨ c = i2 := by simpa using hcm
        rcases e' with q | q | q | q | q
        · rw [q]; exact hzl
        · rw [q]; exact Heap.lt_size hTI
        · rw [q]; exact Heap.lt_size hTO
        · rw [q]; obtain ⟨_, e1, _⟩ := h1.obj; exact Heap.lt_size e1
        · rw [q]; obtain ⟨_, e2, _⟩ := h2.obj; exact Heap.lt_size e2
      rw [upd_ne (Nat.ne_of_lt hlt)]
      exact (hf c hcm).1
  done := by
    intro X hP hw hK hc i pins s σ H E I hf st hg
    subst hP hw hK
    obtain ⟨hz, hTI, ⟨x0, y0, hTO⟩, h1, h2⟩ := st
    obtain ⟨xs, ys, hqx, hqy, l1, l2, hend⟩ := hg
    obtain ⟨its, St1, rv, la, D1, in1, out1⟩ := draws_of (it := i1) (I.ok.hd hc) I hqx D.l1i1
    obtain ⟨its2, St2, rv2, lb, D2, in2, out2⟩ := draws_of (it := i2) (I.ok.hd hc) I hqy D.l2i2
    have e1 := rv.length
    have e2 := rv2.length
    exact wpAny_pyNext_zipD2_end (sep_of D) D1 D2 hz hTI hTO (in1 i h1) (in2 i h2) (by simp; omega) (by simp; omega) (by simp; omega) fun h' tk hk => ⟨rfl, I.turnedL (t' := tk) (ch := [z, TI, TO, i1, i2]) (fun c o hb q =>
      hk c o (fun q' => hb (by simp [q'])) (fun q' => hb (by simp [q'])) (fun q' => hb (by simp [q'])) (fun q' => hb (by simp [q'])) q) hf⟩
  self := fun A i s Q E st h => wpAny_pyIter_zip st.1 h

/-- iter of a source begins -/
theorem begins_of {X : Cx} {pins : List (Addr × Obj)} {σ : L2.St} {H : Hp} {s : Shared} {b : Bool} {a : Addr} {vs : List V} (I : Inv X pins σ H s) (h : SqX X.K b H a vs) :
    ∃ (o : Obj) (Hh : Heap → Prop), Begins (.ref a) o Hh ∧ Hh s.heap ∧ a < s.heap.objs.size ∧ ∀ (h' : Heap) it, h'.get? it = some o → itAt b h' it a 0 := by
  unfold SqX at h
  cases b with
  | true =>
    rw [if_pos rfl] at h
    obtain ⟨its, rv, p, _⟩ := I.tuple h
    obtain ⟨o, ho, _⟩ := id p
    exact ⟨_, _, begins_tuple a its.toArray, p, Heap.lt_size ho, fun h' it e => by unfold itAt; rw [if_pos rfl]; exact ⟨_, e, rfl, rfl⟩⟩
  | false =>
    rw [if_neg Bool.false_ne_true] at h
    obtain ⟨its, rv, p, _⟩ := I.list h
    exact ⟨_, _, begins_list a its.toArray, p.isList, p.lt, fun h' it e => by unfold itAt; rw [if_neg Bool.false_ne_true]; exact ⟨_, e, rfl, rfl⟩⟩
def iZipX (K : PySem.W.Frag) (ta : TA) : TI := fun σ H R => ta σ H fun vs H1 => ∃ b1 b2 a b xs ys, vs = [.ref a, .ref b] ∧ SqX K b1 H1 a xs ∧ SqX K b2 H1 b ys ∧ R (ItZ K b1 b2 a b) H1
theorem pi_zipX {X : Cx} {e e2 : Expr} {ta : TA} {p pos tpos : Pos} {elts : List Expr} {kk : Nat} (hg : Gl X "zip") (hm : X.mg "zip" = none) (ha : PA X [e, e2] ta)
    (hs : starEach [e, e2] X.env = (false, eval e X.env) :: starEach [e2] X.env := by rfl) (hpl : (backTo pos (starEach [e2] X.env)).any (·.1) = false := by rfl) :
    PI X (.Tuple elts kk tpos) (.Call (.Name "zip" p) [e, e2] [] pos) (iZipX X.K ta) := by
  refine ⟨fun pins s σ H R I h => ?_⟩
  refine Call_ (ld_blt I hg hm PyProof.Rows.boot_zip (PyProof.Rows.callWith_type1 (thn (ha.run pos pins s σ H _ I h) fun us s1 ⟨vs, H1, I1, r1, q1⟩ => ?_) hs hpl))
  obtain ⟨b1, b2, a, b, xs, ys, ex, hqx, hqy, q⟩ := q1
  subst ex
  cases r1 with
  | cons r rr =>
    cases rr with
    | cons r' rr =>
      cases rr
      cases r
      cases r'
      have fresh5 : ∀ c, c ∈ [s1.heap.objs.size + 4, s1.heap.objs.size + 2, s1.heap.objs.size + 3, s1.heap.objs.size, s1.heap.objs.size + 1] → FpOk X pins H1 c := fun c hcm => by
        have e' : c = s1.heap.objs.size + 4 ∨ c = s1.heap.objs.size + 2 ∨ c = s1.heap.objs.size + 3 ∨ c = s1.heap.objs.size ∨ c = s1.heap.objs.size + 1 := by simpa using hcm
        have hle : s1.heap.objs.size ≤ c := by
          rcases e' with z | z | z | z | z
          · rw [z]; exact Nat.le_add_right _ _
          · rw [z]; exact Nat.le_add_right _ _
          · rw [z]; exact Nat.le_add_right _ _
          · rw [z]; exact Nat.le_refl _
          · rw [z]; exact Nat.le_add_right _ _
        exact I1.fpOk hle (I1.hok.fresh hle)
      obtain ⟨o1, Hh1, B1, k1, la, at1⟩ := begins_of I1 hqx
      obtain ⟨o2, Hh2, B2, k2, lb, at2⟩ := begins_of I1 hqy
      refine zip_begins2 B1 B2 k1 k2 fun h' hz hTI hTO g1 g2 hsz hk => wpAny_pyIter_zip hz ?_
      have I2 : Inv X pins σ H1 { s1 with heap := h' } := I1.kept (t' := s1.toks) hk
      exact ⟨s1.heap.objs.size + 4, [s1.heap.objs.size + 4, s1.heap.objs.size + 2, s1.heap.objs.size + 3, s1.heap.objs.size, s1.heap.objs.size + 1], _, _, H1, rfl, I2, turn_Z (PySem.W.ktu_apart s1.heap.objs.size a b la lb), ⟨hz, hTI, ⟨_, _, hTO⟩, at1 _ _ g1, at2 _ _ g2⟩, fresh5, q⟩

def zipP (xs ys : List PV) : List PV := (xs.zip ys).map fun p => .tup [p.1, p.2]
theorem itOk_zip {g : Gm} {m : Mm} {H : Hp} {x y : PV} {a b : Addr} {xs ys : List PV} (r : Rep g m H x (.ref a)) (e : srcP x = some xs) (r' : Rep g m H y (.ref b)) (e' : srcP y = some ys) : ItOk g (ItZ g.K (srcT x) (srcT y) a b) (zipP xs ys) m H := by
  refine ⟨fun m1 H1 S i t s hS ey => ?_, fun m1 H1 S i s hS hl => ?_⟩
  · obtain ⟨b1, vs, eb, h1, h2⟩ := src_rep (Rep.emb s _ _ r) e
    cases eb
    obtain ⟨b2, us, eb, h1', h2'⟩ := src_rep (Rep.emb s _ _ r') e'
    cases eb
    unfold zipP at ey
    rw [List.getElem?_map] at ey
    cases e3 : (xs.zip ys)[i]? with
    | none => rw [e3] at ey; cases ey
    | some pq =>
      rw [e3] at ey
      cases ey
      obtain ⟨ex, ey⟩ := List.getElem?_zip_eq_some.mp e3
      obtain ⟨w, ew, r1⟩ := h2.get ex
      obtain ⟨w', ew', r2⟩ := h2'.get ey
      refine ⟨⟨vs, us, w, w', h1, h1', ew, ew'⟩, fun v H' ⟨TA, x', y', ev, hT, eH, f1, f2⟩ => ?_⟩
      have q1 := f1 vs h1
      have q2 := f2 us h1'
      rw [ew] at q1
      rw [ew'] at q2
      cases q1
      cases q2
      subst ev eH
      have st := step_new (m := m1) (o := HO.tup [w, w']) hT
      refine ⟨st, hS.new hT, ?_⟩
      unfold Rep
      exact ⟨_, _, rfl, upd_same, (RepL.cons r1 (RepL.cons r2 RepL.nil)).step st⟩
  · obtain ⟨b1, vs, eb, h1, h2⟩ := src_rep (Rep.emb s _ _ r) e
    cases eb
    obtain ⟨b2, us, eb, h1', h2'⟩ := src_rep (Rep.emb s _ _ r') e'
    cases eb
    unfold zipP at hl
    rw [List.length_map, List.length_zip] at hl
    have e1 := h2.length
    have e2 := h2'.length
    exact ⟨vs, us, h1, h1', by omega, by omega, by omega⟩
def iZip2 (dl : EnP → Sto → Res (List PV)) : EnP → Sto → Res (List PV) := fun ρ S => (dl ρ S).bind fun xs S1 => match xs with
  | [x, y] => (match srcP x, srcP y with
    | some a, some b => .ok (zipP a b) S1
    | _, _ => .bad)
  | _ => .bad
section
variable {X : Cx} {T : Tb} {W : WX} {pos tpos p : Pos} {e e2 : Expr} {elts : List Expr} {kk : Nat} {dl : EnP → Sto → Res (List PV)}
theorem ci_zip (hg : Gl X "zip") (hm : X.mg "zip" = none) (ha : CA X T W [e, e2] dl) (hs : starEach [e, e2] X.env = (false, eval e X.env) :: starEach [e2] X.env := by rfl) (hpl : (backTo pos (starEach [e2] X.env)).any (·.1) = false := by rfl) :
    CI X T W (.Tuple elts kk tpos) (.Call (.Name "zip" p) [e, e2] [] pos) (iZip2 dl) :=
  pi_imp (pi_zipX hg hm ha hs hpl) fun σ H R ⟨ρ, S, m, hE, hS, p⟩ =>
    tr_bindE (f := fun (xs : List PV) (_ : EnP) (S1 : Sto) => match xs with
      | [x, y] => (match srcP x, srcP y with
        | some a, some b => Res.ok (zipP a b) S1
        | _, _ => .bad)
      | _ => .bad) hE hS p fun xs S1 m1 H1 ws ed s1 hE1 hS1 hr1 p1 => by
      split at p1
      · rename_i x y
        split at p1
        · rename_i a b e1 e2
          obtain ⟨v, u, rfl, r1, r2⟩ := two_rep hr1
          obtain ⟨a1, vs, rfl, k1, _⟩ := src_rep r1 e1
          obtain ⟨a2, us, rfl, k2, _⟩ := src_rep r2 e2
          exact ⟨_, _, a1, a2, vs, us, rfl, k1, k2, PostR.here (a := zipP a b) p1 hS1 (itOk_zip r1 e1 r2 e2)⟩
        · exact p1.elim
      · exact p1.elim
end
end Mi
end
section
set_option Elab.async false
set_option linter.all false
set_option maxRecDepth 100000
set_option maxHeartbeats 2000000
namespace Mi
open PySem PySem.Spec PyProof.Rows L2

/-! ### a list that is being made -/
def Mm.open_ (m : Mm) (D : Addr) : Mm := ⟨m.ix, D :: m.ex⟩
def Mm.shut (m : Mm) (D : Addr) : Mm := ⟨m.ix, m.ex.filter (· != D)⟩
theorem RelE.emw {g : Gm} {m m' : Mm} {H H' : Hp} {ρ : EnP} {σ : L2.St} (s : Emw m H m' H') (r : RelE g m H ρ σ) : RelE g m' H' ρ σ :=
  ⟨r.len, fun i v e => let ⟨w, e1, e2⟩ := r.at_ i v e; ⟨w, e1, Rep.emw s _ _ e2⟩⟩
theorem RelE.emb {g : Gm} {m m' : Mm} {H H' : Hp} {ρ : EnP} {σ : L2.St} (s : Emb m H m' H') (r : RelE g m H ρ σ) : RelE g m' H' ρ σ := RelE.emw s.emw r
section
variable {g : Gm} {m m1 : Mm} {S : Sto} {H H1 : Hp} {D : Addr} {avs us : List V}
theorem step_open (hD : H D = none) : Step m H (m.open_ D) (upd H D (HO.lst [])) :=
  ⟨⟨[], by simp [Mm.open_]⟩, fun a h => List.mem_cons_of_mem _ h, fun a h1 h2 _ => by
      rcases List.mem_cons.mp h1 with e | e
      · rw [e]; exact nil_of hD
      · exact absurd e h2,
    fun a h1 h2 => absurd h1 h2, (step_new hD (m := m)).keep, (step_new hD (m := m)).tup, (step_new hD (m := m)).frz⟩
theorem RelS.open_ (h : RelS g m S H) (hD : H D = none) : RelS g (m.open_ D) S (upd H D (HO.lst [])) :=
  ⟨h.len, h.nd, fun a ha => by
    rcases List.mem_cons.mp ha with e | e
    · rw [e]
      exact ⟨(h.fresh hD).1, _, upd_same, tr_lst⟩
    · exact ⟨(h.exs a e).1, (h.exs a e).2.imp fun vs q => ⟨by rw [upd_ne (ne_of_none q.1 hD)]; exact q.1, q.2⟩⟩, fun n xs e => by
    obtain ⟨a, vs, e1, e2, e3⟩ := h.at_ n xs e
    exact ⟨a, vs, e1, by rw [upd_ne (ne_of_none e2 hD)]; exact e2, RSO.step (step_open hD) e3⟩, tabs_new hD h.tab⟩
/-- one more item -/
theorem emb_ex (hm : D ∈ m.ex) (hD : H D = some (HO.lst avs)) : Emb m H m (upd H D (HO.lst us)) :=
  ⟨fun n a e => e, fun a o n e nt => ⟨n, by rw [upd_ne (fun q : a = D => n.2 (by rw [q]; exact hm))]; exact e⟩, fun a xs e => by rw [upd_ne (ne_of e hD (fun z => by cases z))]; exact e, fun a o u e => by rw [upd_ne (ne_of e hD (fun z => by cases z))]; exact e⟩
theorem RelS.ex_ (h : RelS g m S H) (hm : D ∈ m.ex) (hD : H D = some (HO.lst avs)) : RelS g m S (upd H D (HO.lst us)) :=
  ⟨h.len, h.nd, fun a ha => ⟨(h.exs a ha).1, by
      by_cases q : a = D
      · rw [q, upd_same]; exact ⟨_, rfl, tr_lst⟩
      · rw [upd_ne q]; exact (h.exs a ha).2⟩, fun n xs e => by
    obtain ⟨a, vs, e1, e2, e3⟩ := h.at_ n xs e
    have na : a ≠ D := fun q => (h.exs D hm).1 (by rw [← q]; exact List.mem_of_getElem? e1)
    exact ⟨a, vs, e1, by rw [upd_ne na]; exact e2, RSO.emb (emb_ex hm hD) e3⟩, tabs_write hD h.tab⟩
theorem step_ex (s : Step m1 H1 m H) (hn : H1 D = none) (hD : H D = some (HO.lst avs)) : Step m1 H1 m (upd H D (HO.lst us)) :=
  ⟨s.pre, s.exo, s.exn, s.new, fun a o n e nt => by rw [upd_ne (ne_of_none e hn)]; exact s.keep a o n e nt, fun a xs e => by rw [upd_ne (ne_of_none e hn)]; exact s.tup a xs e, fun a o u e => by rw [upd_ne (ne_of_none e hn)]; exact s.frz a o u e⟩
/-- it is made: nobody changes it, or it comes to the store -/
theorem mem_shut {a : Addr} : a ∈ (m.shut D).ex ↔ a ∈ m.ex ∧ a ≠ D := by simp [Mm.shut]
theorem step_shut (s : Step m1 H1 m H) (h1 : D ∉ m1.ex) : Step m1 H1 (m.shut D) H :=
  ⟨s.pre, fun a ha => mem_shut.mpr ⟨s.exo a ha, fun q => h1 (by rw [← q]; exact ha)⟩, fun a ha n => s.exn a (mem_shut.mp ha).1 n, s.new, s.keep, s.tup, s.frz⟩
theorem step_shutP (s : Step m1 H1 m H) (hn : H1 D = none) (h1 : D ∉ m1.ex) : Step m1 H1 ((m.shut D).push D) H := by
  refine ⟨?_, (step_shut s h1).exo, (step_shut s h1).exn, fun a ha n => ?_, s.keep, s.tup, s.frz⟩
  · obtain ⟨l, e⟩ := s.pre
    exact ⟨l ++ [D], by show m.ix ++ [D] = _; rw [e, List.append_assoc]⟩
  · rcases List.mem_append.mp ha with z | z
    · exact s.new a z n
    · rw [List.mem_singleton.mp z]; exact nil_of hn
theorem emb_shut (hm : D ∈ m.ex) : Emb m H (m.shut D) H :=
  ⟨fun n a e => e, fun a o n e nt => ⟨⟨n.1, fun q => n.2 (mem_shut.mp q).1⟩, e⟩, fun a xs e => e, fun a o u e => e⟩
theorem emb_shutP (hm : D ∈ m.ex) : Emb m H ((m.shut D).push D) H :=
  ⟨fun n a e => by
      show (m.ix ++ [D])[n]? = some a
      rw [List.getElem?_append_left (List.getElem?_eq_some_iff.mp e).1]
      exact e, fun a o n e nt => ⟨⟨fun q => by
      rcases List.mem_append.mp q with z | z
      · exact n.1 z
      · exact n.2 (by rw [List.mem_singleton.mp z]; exact hm), fun q => n.2 (mem_shut.mp q).1⟩, e⟩, fun a xs e => e, fun a o u e => e⟩
theorem RelS.shut (h : RelS g m S H) (hm : D ∈ m.ex) : RelS g (m.shut D) S H :=
  ⟨h.len, h.nd, fun a ha => h.exs a (mem_shut.mp ha).1, fun n xs e => by
    obtain ⟨a, vs, e1, e2, e3⟩ := h.at_ n xs e
    exact ⟨a, vs, e1, e2, RSO.emb (emb_shut hm) e3⟩, h.tab⟩
theorem RelS.shutP {xs : List PV} (hb : Bare g) (h : RelS g m S H) (hm : D ∈ m.ex) (hD : H D = some (HO.lst avs)) (r : RepL g m H xs avs) : RelS g ((m.shut D).push D) (S ++ [SO.lst xs]) H := by
  refine ⟨?_, ?_, fun a ha => ⟨fun q => ?_, (h.exs a (mem_shut.mp ha).1).2⟩, fun n ys e => ?_, h.tab⟩
  · show (m.ix ++ [D]).length = _
    simp [h.len]
  · show (m.ix ++ [D]).Nodup
    rw [List.nodup_append]
    refine ⟨h.nd, by simp, fun a ha b hb q => ?_⟩
    rw [List.mem_singleton.mp hb] at q
    exact (h.exs D hm).1 (by rw [← q]; exact ha)
  · rcases List.mem_append.mp q with z | z
    · exact (h.exs a (mem_shut.mp ha).1).1 z
    · exact (mem_shut.mp ha).2 (List.mem_singleton.mp z)
  · by_cases hn : n < S.length
    · rw [List.getElem?_append_left hn] at e
      obtain ⟨a, vs, e1, e2, e3⟩ := h.at_ n ys e
      exact ⟨a, vs, (emb_shutP (H := H) hm).get n a e1, e2, RSO.emb (emb_shutP hm) e3⟩
    · rw [List.getElem?_append_right (by omega)] at e
      have hz : n - S.length = 0 := by
        have z := (List.getElem?_eq_some_iff.mp e).1
        simp at z; omega
      rw [hz] at e
      cases e
      refine ⟨D, _, ?_, hD, by rw [hb]; exact ⟨avs, rfl, RepL.emb (emb_shutP hm) _ _ r⟩⟩
      show (m.ix ++ [D])[n]? = some D
      rw [List.getElem?_append_right (by rw [h.len]; omega), h.len, hz]
      rfl
end

/-! ### slots that a comprehension forgets -/
def wipeP (ρ : EnP) : List Nat → EnP
  | [] => ρ
  | v :: vs => (wipeP ρ vs).set v none
theorem wipeP_length (ρ : EnP) : ∀ vs : List Nat, (wipeP ρ vs).length = ρ.length
  | [] => rfl
  | v :: vs => by unfold wipeP; rw [List.length_set, wipeP_length ρ vs]
theorem wipe_get {σ : L2.St} {i : Nat} : ∀ {vs : List Nat}, i ∉ vs → (wipe σ vs)[i]? = σ[i]?
  | [], _ => rfl
  | v :: vs, h => by
    unfold wipe
    rw [List.getElem?_set_ne (fun e => h (by rw [e]; exact List.mem_cons_self))]
    exact wipe_get fun z => h (List.mem_cons_of_mem _ z)
theorem wipeP_some {ρ : EnP} {i : Nat} {x : PV} : ∀ {vs : List Nat}, (wipeP ρ vs)[i]? = some (some x) → ρ[i]? = some (some x) ∧ i ∉ vs
  | [], h => ⟨h, by simp⟩
  | v :: vs, h => by
    unfold wipeP at h
    by_cases hi : v = i
    · subst hi
      by_cases hv : v < (wipeP ρ vs).length
      · rw [List.getElem?_set_self hv] at h; cases h
      · rw [List.getElem?_eq_none (by simpa using hv)] at h; cases h
    · rw [List.getElem?_set_ne hi] at h
      obtain ⟨h1, h2⟩ := wipeP_some h
      exact ⟨h1, by simp only [List.mem_cons, not_or]; exact ⟨fun e => hi e.symm, h2⟩⟩
theorem RelE.wipe {g : Gm} {m : Mm} {H : Hp} {ρ : EnP} {σ : L2.St} (r : RelE g m H ρ σ) (vs : List Nat) : RelE g m H (wipeP ρ vs) (L2.wipe σ vs) :=
  ⟨by rw [wipeP_length, wipe_length, r.len], fun i v e => by
    obtain ⟨e1, e2⟩ := wipeP_some e
    obtain ⟨w, e3, e4⟩ := r.at_ i v e1
    exact ⟨w, by rw [wipe_get e2]; exact e3, e4⟩⟩
theorem wipe_get_in {σ : L2.St} {i : Nat} : ∀ {vs : List Nat}, i ∈ vs → i < σ.length → (wipe σ vs)[i]? = some none
  | v :: vs, h, hl => by
    unfold wipe
    by_cases hv : v = i
    · subst hv
      rw [List.getElem?_set_self (by rw [wipe_length]; exact hl)]
    · rw [List.getElem?_set_ne hv]
      refine wipe_get_in ?_ hl
      rcases List.mem_cons.mp h with e | e
      · exact absurd e.symm hv
      · exact e
theorem wipe_ext {σ τ : L2.St} {vs : List Nat} (hl : σ.length = τ.length) (h : ∀ i, i ∉ vs → σ[i]? = τ[i]?) : wipe σ vs = wipe τ vs := by
  refine List.ext_getElem? fun i => ?_
  by_cases hi : i ∈ vs
  · by_cases hlt : i < σ.length
    · rw [wipe_get_in hi hlt, wipe_get_in hi (by rw [← hl]; exact hlt)]
    · rw [List.getElem?_eq_none (by rw [wipe_length]; omega), List.getElem?_eq_none (by rw [wipe_length]; omega)]
  · rw [wipe_get hi, wipe_get hi, h i hi]
theorem wipe_wipe (σ : L2.St) (vs : List Nat) : wipe (wipe σ vs) vs = wipe σ vs := wipe_ext (wipe_length _ _) fun i hi => wipe_get hi
theorem wipe_set (σ : L2.St) (vs : List Nat) {i : Nat} (x : Option V) (h : i ∈ vs) : wipe (σ.set i x) vs = wipe σ vs := wipe_ext (by rw [List.length_set]) fun j hj => List.getElem?_set_ne (fun e => hj (by rw [← e]; exact h))

/-! ### targets of a comprehension -/
/-- the target takes a tree into own slots alone -/
def TgC (g : Gm) (vs : List Nat) (t : TG) (f : PV → EnP → Option EnP) : Prop :=
  ∀ (m : Mm) (H : Hp) (x : PV) (v : V) (ρ ρ' : EnP) (σ : L2.St) (Q : L2.St → Hp → Prop), Rep g m H x v → RelE g m H ρ σ → f x ρ = some ρ' → (∀ σ', wipe σ' vs = wipe σ vs → RelE g m H ρ' σ' → Q σ' H) → t v σ H Q
def TgCs (g : Gm) (vs : List Nat) (t : TGs) (f : List PV → EnP → Option EnP) : Prop :=
  ∀ (m : Mm) (H : Hp) (xs : List PV) (us : List V) (ρ ρ' : EnP) (σ : L2.St) (Q : L2.St → Hp → Prop), RepL g m H xs us → RelE g m H ρ σ → f xs ρ = some ρ' → (∀ σ', wipe σ' vs = wipe σ vs → RelE g m H ρ' σ' → Q σ' H) → t us σ H Q
def cNm (i : Nat) : PV → EnP → Option EnP := fun x ρ => some (ρ.set i (some x))
def cNil : List PV → EnP → Option EnP := fun xs ρ => match xs with
  | [] => some ρ
  | _ => none
def cCons (f : PV → EnP → Option EnP) (fs : List PV → EnP → Option EnP) : List PV → EnP → Option EnP := fun xs ρ => match xs with
  | x :: r => (match f x ρ with
    | some ρ' => fs r ρ'
    | none => none)
  | [] => none
def cTup (n : Nat) (fs : List PV → EnP → Option EnP) : PV → EnP → Option EnP := fun x ρ => match x with
  | .tup xs => if xs.length = n then fs xs ρ else none
  | _ => none
theorem tgc_name {g : Gm} {vs : List Nat} {i : Nat} (h : i ∈ vs) : TgC g vs (gName i) (cNm i) := fun m H x v ρ ρ' σ Q r hE e q => by
  cases e
  exact q _ (wipe_set σ vs _ h) (hE.set i r)
theorem tgcs_nil {g : Gm} {vs : List Nat} : TgCs g vs gNil cNil := fun m H xs us ρ ρ' σ Q r hE e q => by
  cases xs with
  | nil =>
    cases e
    unfold RepL at r
    exact ⟨r, q σ rfl hE⟩
  | cons x xs => cases e
theorem tgcs_cons {g : Gm} {vs : List Nat} {t : TG} {f : PV → EnP → Option EnP} {ts : TGs} {fs : List PV → EnP → Option EnP} (h : TgC g vs t f) (hs : TgCs g vs ts fs) : TgCs g vs (gCons t ts) (cCons f fs) := fun m H xs us ρ ρ' σ Q r hE e q => by
  cases xs with
  | nil => cases e
  | cons x xs =>
    unfold RepL at r
    obtain ⟨v, ws, rfl, r1, r2⟩ := r
    simp only [cCons] at e
    cases e1 : f x ρ with
    | none => rw [e1] at e; cases e
    | some ρ1 =>
      rw [e1] at e
      exact ⟨v, ws, rfl, h m H x v ρ ρ1 σ _ r1 hE e1 fun σ' w hE' => hs m H xs ws ρ1 ρ' σ' Q r2 hE' e fun σ'' w' hE'' => q σ'' (w'.trans w) hE''⟩
theorem tgc_tup {g : Gm} {vs : List Nat} {n : Nat} {ts : TGs} {fs : List PV → EnP → Option EnP} (hs : TgCs g vs ts fs) : TgC g vs (gTup g.K n ts) (cTup n fs) := fun m H x v ρ ρ' σ Q r hE e q => by
  cases x with
  | tup xs =>
    simp only [cTup] at e
    split at e
    · rename_i hl
      obtain ⟨a, us, rfl, h1, h2⟩ := tup_rep r
      exact ⟨a, us, rfl, h1, by rw [← h2.length]; exact hl, hs m H xs us ρ ρ' σ Q h2 hE e q⟩
    · cases e
  | _ => cases e

/-! ### comprehensions -/
abbrev W0 : WX := fun _ _ _ _ => False
def lcP (f : PV → EnP → Option EnP) (dt : EnP → Sto → Res Bool) (de : EnP → Sto → Res PV) (ρ : EnP) : List PV → List PV → Sto → Res (List PV)
  | [], acc, S => .ok acc S
  | x :: xs, acc, S => match f x ρ with
    | none => .bad
    | some ρ1 => (match dt ρ1 S with
      | .ok true S1 => (match de ρ1 S1 with
        | .ok y S2 => if acc.length < lim then lcP f dt de ρ xs (acc ++ [y]) S2 else .bad
        | _ => .bad)
      | .ok false S1 => lcP f dt de ρ xs acc S1
      | _ => .bad)
def dYes : EnP → Sto → Res Bool := fun _ S => .ok true S
def dLc (mt : Bool) (di : EnP → Sto → Res (List PV)) (f : PV → EnP → Option EnP) (dt : EnP → Sto → Res Bool) (de : EnP → Sto → Res PV) (vs : List Nat) : EnP → Sto → Res PV := fun ρ S =>
  (di ρ S).bind fun items S1 => (lcP f dt de (wipeP ρ vs) items [] S1).bind fun acc S2 => mkLst mt acc S2
theorem lc_sound {X : Cx} {T : Tb} {W : WX} {wi : TI} {g : TG} {tt : TT} {te : TE} {vs : List Nat} {di : EnP → Sto → Res (List PV)} {f : PV → EnP → Option EnP} {dt : EnP → Sto → Res Bool} {de : EnP → Sto → Res PV} (mt : Bool) (hb : mt = true → Bare (gm X T))
    (hi : ∀ σ H R, tr (gm X T) W (fun m' H' items J => ItOk (gm X T) J items m' H') di σ H R → wi σ H R) (hg : TgC (gm X T) vs g f)
    (ht : ∀ σ H Q, tb (gm X T) W0 dt σ H Q → tt σ H Q) (he : ∀ σ H Q, tv (gm X T) W0 de σ H Q → te σ H Q) {σ : L2.St} {H : Hp} {Q : VK} (h : tv (gm X T) W (dLc mt di f dt de vs) σ H Q) : tLc wi g tt te vs σ H Q := by
  obtain ⟨ρ, S, m, hE, hS, p⟩ := h
  refine hi _ _ _ (tr_bind (f := fun items ρ S1 => (lcP f dt de (wipeP ρ vs) items [] S1).bind fun acc S2 => mkLst mt acc S2) hE hS p fun items S1 m1 H1 J s1 hE1 hS1 hJ p1 D hD => ?_)
  have D1 : D ∉ m1.ex := (hS1.fresh hD).2
  refine ⟨fun i n H => ∃ S m acc avs, Step m1 H1 m H ∧ D ∈ m.ex ∧ H D = some (HO.lst avs) ∧ RepL (gm X T) m H acc avs ∧ RelS (gm X T) m S H ∧ RelE (gm X T) m H (wipeP ρ vs) (wipe σ vs) ∧ (n = items.length - i ∧ i ≤ items.length) ∧ PostV (gm X T) W σ m1 H1 Q ((lcP f dt de (wipeP ρ vs) (items.drop i) acc S).bind fun acc S2 => mkLst mt acc S2),
    ⟨_, S1, m1.open_ D, [], [], step_open hD, List.mem_cons_self, upd_same, RepL.nil, hS1.open_ hD, (hE1.wipe vs).step (step_open hD), ⟨rfl, Nat.zero_le _⟩, p1⟩, ?_⟩
  rintro i n H2 ⟨S2, m2, acc, avs, s2, hm2, hD2, ra, hS2, hE2, ⟨rfl, hle⟩, p2⟩
  by_cases hlt : i < items.length
  · right
    have ei : items[i]? = some items[i] := List.getElem?_eq_getElem hlt
    obtain ⟨hgo, hy⟩ := hJ.go m2 H2 S2 i items[i] s2.emb hS2 ei
    refine ⟨hgo, fun H => ∃ S m acc avs, Step m1 H1 m H ∧ D ∈ m.ex ∧ H D = some (HO.lst avs) ∧ RepL (gm X T) m H acc avs ∧ RelS (gm X T) m S H ∧ RelE (gm X T) m H (wipeP ρ vs) (wipe σ vs) ∧ PostV (gm X T) W σ m1 H1 Q ((lcP f dt de (wipeP ρ vs) (items.drop (i + 1)) acc S).bind fun acc S2 => mkLst mt acc S2),
      fun H' ⟨S', m', acc', avs', a, b, c, d, e, f1, k⟩ => ⟨items.length - (i + 1), by omega, S', m', acc', avs', a, b, c, d, e, f1, ⟨rfl, hlt⟩, k⟩, fun v H3 y => ?_⟩
    obtain ⟨s3, hS3, hr3⟩ := hy v H3 y
    rw [List.drop_eq_getElem_cons hlt] at p2
    unfold lcP at p2
    have D2 : D ∉ m2.ix := (hS2.exs D hm2).1
    have lstk : ∀ {m' H'}, Step m2 H2 m' H' → D ∈ m'.ex ∧ H' D = some (HO.lst avs) := fun s => ⟨s.exo D hm2, s.keep D _ D2 hD2 nt_lst⟩
    have hE3 := hE2.step s3
    cases ef : f items[i] (wipeP ρ vs) with
    | none => rw [ef] at p2; exact p2.elim
    | some ρ1 =>
      simp only [ef] at p2
      refine hg m2 H3 items[i] v (wipeP ρ vs) ρ1 (wipe σ vs) _ hr3 hE3 ef fun σ' w hE' => ⟨by rw [w, wipe_wipe], ?_⟩
      refine ht _ _ _ ⟨ρ1, S2, m2, hE', hS3, ?_⟩
      cases et : dt ρ1 S2 with
      | bad => simp only [et] at p2; exact p2.elim
      | exc c fs S3 => simp only [et] at p2; exact p2.elim
      | ok b S3 =>
        simp only [et] at p2
        intro m4 H4 b' s4 hS4 eb
        cases eb
        have s24 := s3.trans s4
        cases b with
        | false =>
          rw [if_neg Bool.false_ne_true]
          exact ⟨S3, m4, acc, avs, s2.trans s24, (lstk s24).1, (lstk s24).2, RepL.step s24 _ _ ra, hS4, hE2.step s24, p2⟩
        | true =>
          rw [if_pos rfl]
          refine he _ _ _ ⟨ρ1, S3, m4, hE'.step s4, hS4, ?_⟩
          cases ee : de ρ1 S3 with
          | bad => simp only [ee] at p2; exact p2.elim
          | exc c fs S5 => simp only [ee] at p2; exact p2.elim
          | ok y5 S5 =>
            simp only [ee] at p2
            by_cases hz : acc.length < lim
            · rw [if_pos hz] at p2
              intro m5 H5 w5 s5 hS5 hr5
              have s25 := s24.trans s5
              have k5 := lstk s25
              refine ⟨avs, k5.2, by rw [sizeLine_eq, ← ra.length]; exact hz, S5, m5, acc ++ [y5], avs ++ [w5], step_ex (s2.trans s25) hD k5.2, k5.1, upd_same, ?_, hS5.ex_ k5.1 k5.2, (hE2.step s25).emb (emb_ex k5.1 k5.2), p2⟩
              exact RepL.emb (emb_ex k5.1 k5.2) _ _ ((RepL.step s25 _ _ ra).append (RepL.cons hr5 RepL.nil))
            · rw [if_neg hz] at p2; exact p2.elim
  · left
    refine ⟨hJ.stop m2 H2 S2 i s2.emb hS2 (by omega), ?_⟩
    rw [List.drop_eq_nil_of_le (by omega)] at p2
    have p3 : PostV (gm X T) W σ m1 H1 Q (mkLst mt acc S2) := p2
    unfold mkLst at p3
    split at p3
    · cases mt with
      | true =>
        refine p3 ((m2.shut D).push D) H2 (.ref D) (step_shutP s2 hD D1) (hS2.shutP (hb rfl) hm2 hD2 ra) ?_
        show Rep _ _ _ (.ref S2.length) _
        unfold Rep
        refine ⟨D, ?_, rfl⟩
        show (m2.ix ++ [D])[S2.length]? = some D
        rw [List.getElem?_append_right (by rw [hS2.len]; omega), hS2.len]
        simp
      | false =>
        refine p3 (m2.shut D) H2 (.ref D) (step_shut s2 D1) (hS2.shut hm2) ?_
        show Rep _ _ _ (.nl acc) _
        unfold Rep
        exact ⟨D, avs, rfl, ⟨(hS2.exs D hm2).1, fun q => (mem_shut.mp q).2 rfl⟩, hD2, RepL.emb (emb_shut hm2) _ _ ra⟩
    · exact p3.elim
section
variable {X : Cx} {T : Tb} {W : WX} {elt tg iter c : Expr} {ifs : List Expr} {scope : Scope} {own : List (Str × Nat)} {pos spos : Pos} {g : TG} {di : EnP → Sto → Res (List PV)} {f : PV → EnP → Option EnP} {dt : EnP → Sto → Res Bool} {de : EnP → Sto → Res PV}
/-- a clause's tests -/
def CTs (X : Cx) (T : Tb) (ifs : List Expr) (dt : EnP → Sto → Res Bool) : Prop := ∃ tt : TT, PTs X ifs tt ∧ ∀ σ H Q, tb (gm X T) W0 dt σ H Q → tt σ H Q
theorem cts_nil : CTs X T [] dYes := ⟨_, pts_nil, fun σ H Q ⟨ρ, S, m, hE, hS, p⟩ => PostR.here (a := true) p hS rfl⟩
theorem cts_one (h : CT X T W0 c dt) : CTs X T [c] dt := ⟨_, pts_one h, fun σ H Q q => q⟩
/-- every block of this scope in X -/
abbrev InBlk (X : Cx) (scope : Scope) (P : Cx → Prop) : Prop := ∀ (s : Shared) (H : Hp) (C : Addr) (cl : List (Str × Addr)) (fp : List Addr), P (X.blk s H scope (compEnvC scope cl C X.env) fp)
theorem ce_lc (mt : Bool) (hb : mt = true → Bare (gm X T)) (hc : X.calm = true) (hN : X.N.Nodup) (hi : CI X T W tg iter di) (ok : BlkOk X.N X.env.scope scope own) (hg : InBlk X scope fun Y => PG Y tg g) (hf : TgC (gm X T) (own.map (·.2)) g f)
    (ht : InBlk X scope fun Y => PTs Y ifs (tb (gm X T) W0 dt)) (he : InBlk X scope fun Y => CE Y T W0 elt de) (hs : ∀ x, foldedSetIterable iter X.env x = pure x := by intro _; rfl) :
    CE X T W (.ListComp elt [⟨tg, iter, ifs, 0⟩] scope pos) (dLc mt di f dt de (own.map (·.2))) :=
  pe_imp (pe_lc hc hN hi ok hg ht (te := tv (gm X T) W0 de) he hs) fun σ H Q h => lc_sound mt hb (fun _ _ _ q => q) hf (fun _ _ _ q => q) (fun _ _ _ q => q) h
theorem pts_yes : PTs X [] (tb (gm X T) W0 dYes) := ⟨fun pins s σ H Q I ⟨ρ, S, m, hE, hS, p⟩ => pts_nil.run pins s σ H Q I (PostR.here (a := true) p hS rfl)⟩
/-- name = [..], on one line, the name a local -/
theorem cs_lc (mt : Bool) (hb : mt = true → Bare (gm X T)) {i : Nat} {y : Str} {py : Pos} (hc : X.calm = true) (hN : X.N.Nodup) (hy : X.N[i]? = some y) (hyl : X.env.scope.names.lookup y = some .local)
    (hsw : swapsWith (.ListComp elt [⟨tg, iter, ifs, 0⟩] scope pos) (some (.Name y py)) spos.line X.env = pure true) (hi : CI X T W tg iter di) (ok : BlkOk X.N X.env.scope scope own) (hg : InBlk X scope fun Y => PG Y tg g) (hf : TgC (gm X T) (own.map (·.2)) g f)
    (ht : InBlk X scope fun Y => PTs Y ifs (tb (gm X T) W0 dt)) (he : InBlk X scope fun Y => CE Y T W0 elt de) (hs : ∀ x, foldedSetIterable iter X.env x = pure x := by intro _; rfl) :
    CS X T W (.Assign [.Name y py] (.ListComp elt [⟨tg, iter, ifs, 0⟩] scope pos) spos) (dSet i (dLc mt di f dt de (own.map (·.2)))) :=
  ps_imp (ps_setLc hc hN hy hyl hsw hi ok hg ht (te := tv (gm X T) W0 de) he hs) fun D σ H ⟨ρ, S, m, hE, hS, p⟩ => by
    refine lc_sound (W := W) mt hb (fun _ _ _ q => q) hf (fun _ _ _ q => q) (fun _ _ _ q => q) ?_
    exact ts_bind (d := dLc mt di f dt de (own.map (·.2))) (k := fun v S1 => .nx (ρ.set i (some v)) S1) hE hS p fun v S1 m1 H1 w s1 hE1 hS1 hr p1 => p1.nx_here hS1 (hE1.set i hr)
end
end Mi
end
section
set_option Elab.async false
set_option linter.all false
set_option maxRecDepth 100000
set_option maxHeartbeats 2000000
namespace Mi
open PySem PySem.Spec PyProof.Rows L2

/-! ### defs and their calls -/
/-- what stands fast in a run -/
structure Wd where
  P : Program
  w : World
  K : PySem.W.Frag
  mg : Str → Option Value
  base : Heap
  T : Tb
abbrev Wd.g (Z : Wd) : Gm := ⟨Z.K, Z.mg, Z.T, none⟩
abbrev Wd.cx (Z : Wd) (N : List Str) (x : Str) (sc : Scope) (f : Addr) (cdv : Value) (A : Around) (outer : List Env) (s : Shared) (H : Hp) (E : XK) : Cx :=
  cxOf (L2.CX Z.P Z.w) Z.P Z.w Z.K Z.mg Z.base N x sc f cdv A outer s H E
abbrev wdOf (X : Cx) (T : Tb) : Wd := ⟨X.prog, X.w, X.K, X.mg, X.base, T⟩
def startP (n : Nat) (xs : List PV) : EnP := xs.map some ++ List.replicate (n - xs.length) none
def endOf : SR → Res PV
  | .nx _ S => .ok .non S
  | .rt v S => .ok v S
  | .exc c fs _ S => .exc c fs S
  | .bk _ _ => .bad
  | .ct _ _ => .bad
  | .bad => .bad
/-- a def by its body: n parameters, len names -/
def runF (n len : Nat) (d : EnP → Sto → SR) : List PV → Sto → Res PV := fun xs S => if xs.length = n then endOf (d (startP len xs) S) else .bad
/-- what the function object at f answers -/
def FA (Z : Wd) (k : Nat) (f : Addr) (F : List PV → Sto → Res PV) : Prop :=
  ∀ (A : Around) (outer : List Env) (s : Shared) (H : Hp) (us : List Value) (vs : List V) (xs : List PV) (S : Sto) (m : Mm) (Q : VK) (E : XK), Room k A → A.guards = some [] → Env0 Z.P Z.w Z.K Z.mg Z.base A outer s H → Vals vs us → RelS Z.g m S H → RepL Z.g m H xs vs →
    PostV Z.g (fun c d _ H => E c d H) [] m H Q (F xs S) → codeAny (model Z.P Z.w) A (.call (.ref f) ⟨us, []⟩) (CR (L2.CX Z.P Z.w) outer Z.P Z.w H s Q E) s
structure FC (Z : Wd) (k : Nat) (x : Str) (F : List PV → Sto → Res PV) : Prop where
  ex : ∃ f, Z.mg x = some (.ref f) ∧ PySem.W.keepIn Z.K (.ref f) = true ∧ FA Z k f F
theorem start_rel {g : Gm} {m : Mm} {H : Hp} {xs : List PV} {vs : List V} {N : List Str} (r : RepL g m H xs vs) : RelE g m H (startP N.length xs) (L2.start N vs) := by
  refine ⟨?_, fun i v e => ?_⟩
  · unfold startP L2.start
    rw [List.length_append, List.length_append, List.length_map, List.length_map, List.length_replicate, List.length_replicate, r.length]
  · unfold startP at e
    by_cases hi : i < xs.length
    · rw [List.getElem?_append_left (by rw [List.length_map]; exact hi), List.getElem?_map] at e
      cases ex : xs[i]? with
      | none => rw [ex] at e; cases e
      | some y =>
        rw [ex] at e
        cases e
        obtain ⟨w, e1, e2⟩ := r.get ex
        refine ⟨w, ?_, e2⟩
        unfold L2.start
        rw [List.getElem?_append_left (by rw [List.length_map, ← r.length]; exact hi), List.getElem?_map, e1]
        rfl
    · rw [List.getElem?_append_right (by rw [List.length_map]; omega), List.getElem?_replicate] at e
      split at e <;> cases e
theorem endOf_post {g : Gm} {W : WX} {m : Mm} {H : Hp} {Q : VK} {r : SR} {σ : L2.St} (hW : ∀ c d σ σ' H, W c d σ H → W c d σ' H) (p : PostV g W σ m H Q (endOf r)) : PostS g W { nx := fun _ H' => Q .non H', rt := Q } m H r := by
  cases r with
  | nx ρ S => exact fun m' H' σ' s h1 h2 => p m' H' .non s h1 mk_non
  | rt v S => exact fun m' H' w s h1 h2 => p m' H' w s h1 h2
  | exc c fs ρ S => exact fun m' H' σ' cls dd s h1 h2 h3 => hW _ _ _ _ _ (p m' H' cls dd s h1 h3)
  | _ => exact p.elim
/-- a def as it stands, with its code object -/
structure FunC (K : PySem.W.Frag) (x : Str) (st : Stmt) (f : Addr) (cdv : Value) : Prop where
  ex : ∃ (oc : Value) (od : Option Addr) (kV doc pm : Value) (an : Option Addr) (ct : Value) (osl : Array (Option Value)),
    K.lookup f = some ⟨oc, od, .func (PySem.W.fnOf x x (defArgs st) (defBody st) (defScope st) .none kV doc pm an cdv ct), osl⟩
  cd : PySem.W.codeIn K cdv x = true
/-- how its arguments are bound -/
abbrev BindC (x : Str) (st : Stmt) (ps : List Str) : Prop := ∀ (kV doc pm : Value) (an : Option Addr) (cdv ct : Value) (us : List Value), us.length = ps.length → bindArgs (PySem.W.fnOf x x (defArgs st) (defBody st) (defScope st) .none kV doc pm an cdv ct) ⟨us, []⟩ = pure (ps.zip us)
theorem run_body {Z : Wd} {k : Nat} {x : Str} {st : Stmt} {f : Addr} {cdv : Value} {N ps : List Str} {t : TS} (F : FunC Z.K x st f cdv) (Sc : FnScope N ps (defScope st)) (hb : BindC x st ps)
    {A : Around} {outer : List Env} {s : Shared} {H : Hp} {us : List Value} {vs : List V} {Q : VK} {E : XK} (hr : Room (k + 1) A) (e0 : Env0 Z.P Z.w Z.K Z.mg Z.base A outer s H) (rv : Vals vs us) (hul : us.length = ps.length)
    (body : PSs (Z.cx N x (defScope st) f cdv A outer s H E) (defBody st) t) (hp : t { nx := fun _ H' => Q .non H', rt := Q } (L2.start N vs) H) :
    codeAny (model Z.P Z.w) A (.call (.ref f) ⟨us, []⟩) (CR (L2.CX Z.P Z.w) outer Z.P Z.w H s Q E) s := by
  obtain ⟨oc, od, kV, doc, pm, an, ct, osl, lk⟩ := F.ex
  have KX : Z.K.In s.heap := e0.mod.kin.keeps fun b o e => (e0.bs b o e).1
  have hvl : vs.length = ps.length := by rw [rv.length]; exact hul
  have places : ∀ y ∈ ps.zip us, (defScope st).names.lookup y.1 = some .local ∨ ((defScope st).names.lookup y.1 = some .cell ∧ ((cellsFrom (s.heap.objs.size + 1) (defScope st).names []).lookup y.1).isSome = true) := fun y hy => by
    rcases Sc.par y.1 (List.of_mem_zip (a := y.1) (b := y.2) hy).1 with q | q
    · exact .inl q
    · exact .inr ⟨q, PySem.W.cellsFrom_some _ _ _ (.inl q)⟩
  refine codeAny_call_cells hr.depth (KX _ _ lk) rfl (e0.mod.nolimit.keeps fun b o e => (e0.bs b o e).1) (PySem.W.codeRec_of KX F.cd) rfl (hb kV doc pm an cdv ct us hul) rfl places (fun s₁ ic => ?_) Sc.co Sc.gen Sc.kind
  have J : Inv (Z.cx N x (defScope st) f cdv A outer s H E) [] (L2.start N vs) H s₁ := inv_start Sc hr.hd e0 hvl rv ic
  refine wpAny_mono (body.run [] s₁ _ H _ J hp) (fun fl s' hs => ?_) fun _ _ hs => hs
  cases fl with
  | next => obtain ⟨σ', H', J', q⟩ := hs; exact ⟨.non, H', J'.os, J'.bare, J'.base, J'.hok, rfl, q⟩
  | ret u => obtain ⟨v, σ', H', J', r, q⟩ := hs; exact ⟨v, H', J'.os, J'.bare, J'.base, J'.hok, r, q⟩
  | brk => obtain ⟨_, _, _, q⟩ := hs; exact q.elim
  | cont => obtain ⟨_, _, _, q⟩ := hs; exact q.elim
theorem fa_of {Z : Wd} {k : Nat} {x : Str} {st : Stmt} {f : Addr} {cdv : Value} {N ps : List Str} {d : EnP → Sto → SR} (F : FunC Z.K x st f cdv) (Sc : FnScope N ps (defScope st)) (hb : BindC x st ps)
    (body : ∀ (A : Around) (outer : List Env) (s : Shared) (H : Hp) (E : XK), Room k (A.deeper (envOfC x (defScope st) s.heap.objs.size f cdv)) → A.guards = some [] → CSs (Z.cx N x (defScope st) f cdv A outer s H E) Z.T (fun c d _ H => E c d H) (defBody st) d) :
    FA Z (k + 1) f (runF ps.length N.length d) := by
  intro A outer s H us vs xs S m Q E hr hgd e0 rv hS rx p
  unfold runF at p
  split at p
  case isFalse => exact p.elim
  rename_i hl
  have hul : us.length = ps.length := by rw [← rv.length, ← rx.length]; exact hl
  have eg : Z.g = gm (Z.cx N x (defScope st) f cdv A outer s H E) Z.T := congrArg (Gm.mk Z.K Z.mg Z.T) hr.hd.symm
  rw [eg] at hS rx p
  exact run_body F Sc hb hr e0 rv hul (body A outer s H E (hr.deeper _) hgd) ⟨_, S, m, start_rel rx, hS, endOf_post (fun _ _ _ _ _ h => h) p⟩
theorem gm_none {X : Cx} {T : Tb} (h : X.A.handled = none) : gm X T = (wdOf X T).g := by
  show Gm.mk _ _ _ X.A.handled = _
  rw [h]
theorem FA.mono {Z : Wd} {j k : Nat} {f : Addr} {F : List PV → Sto → Res PV} (h : FA Z j f F) (hjk : j ≤ k) : FA Z k f F := fun A outer s H us vs xs S m Q E hr => h A outer s H us vs xs S m Q E (hr.mono hjk)
theorem FA.call {X : Cx} {T : Tb} {W : WX} {k : Nat} {f : Addr} {F : List PV → Sto → Res PV} (c : FA (wdOf X T) k f F) (hr : Room k X.A) (hgd : X.A.guards = some []) (tk : Takes X W) {pins : List (Addr × Obj)} {σ : L2.St} {H : Hp} {s : Shared} {Q : VK} {us : List Value} {vs : List V} {xs : List PV} {S : Sto} {m : Mm}
    (I : Inv X pins σ H s) (rv : Vals vs us) (hS : RelS (gm X T) m S H) (rx : RepL (gm X T) m H xs vs) (p : PostV (gm X T) W σ m H Q (F xs S)) : wpAny (model X.prog X.w) X.A (call (.ref f) us) (EP X pins σ Q) X.xe s := by
  rw [gm_none hr.hd] at hS rx p
  have p2 : PostV (wdOf X T).g (fun c d _ H => W c d σ H) [] m H Q (F xs S) := by
    cases e : F xs S with
    | ok a S1 => rw [e] at p; exact p
    | exc c fs S1 => rw [e] at p; exact p
    | bad => rw [e] at p; exact p
  refine wpAny_call (codeAny_mono (c X.A X.stack s H us vs xs S m Q (fun c d H => W c d σ H) hr hgd I.env0 rv hS rx p2) fun r s' hq => ?_)
  cases r with
  | error e => exact tk e s' (XE.of_call I (fun _ _ _ h => h) hq)
  | ok fl =>
    cases fl with
    | ret u => exact I.after hq
    | _ => exact False.elim hq
section
variable {X : Cx} {T : Tb} {W : WX} {j k : Nat} {x : Str} {p pos : Pos} {e : Expr} {es : List Expr} {F : List PV → Sto → Res PV} {dl : EnP → Sto → Res (List PV)}
theorem ce_call (c : FC (wdOf X T) j x F) (C : Ctx X k W) (hjk : j ≤ k) (hg : Gl X x) (ha : CA X T W (e :: es) dl) (hdb : (x == ("__debug__" : Str)) = false := by decide)
    (he : starEach (e :: es) X.env = (false, eval e X.env) :: starEach es X.env := by rfl) (hpl : (backTo pos (starEach es X.env)).any (·.1) = false := by rfl) : CE X T W (.Call (.Name x p) (e :: es) [] pos) (dCB F dl) := by
  obtain ⟨f, hm, hk, fa⟩ := c.ex
  refine ⟨fun pins s σ H Q I h => ?_⟩
  obtain ⟨ρ, S, m, hE, hS, q⟩ := h
  refine wpAny_Call_Name_kw (ld_glob I hg hm ?_ hdb)
  refine PySem.W.callWith_K (h₀ := X.base) I.ok.mod.kin hk (thn (ha.run pos pins s σ H (fun vs H1 => ∃ xs S1 m1, RelS (gm X T) m1 S1 H1 ∧ RepL (gm X T) m1 H1 xs vs ∧ PostV (gm X T) W σ m1 H1 Q (F xs S1)) I ?_) fun us s1 ⟨vs, H1, I1, r, xs, S1, m1, a1, a2, a3⟩ => ⟨I1.kIn, ?_⟩) he hpl
  · exact tr_bind (f := fun xs _ S1 => F xs S1) hE hS q fun xs S1 m1 H1 ws s1 hE1 hS1 hr1 p1 => ⟨xs, S1, m1, hS1, hr1, p1⟩
  · exact (fa.mono hjk).call C.room C.gd C.tk I1 r a1 a2 a3
theorem ce_call0 (c : FC (wdOf X T) j x F) (C : Ctx X k W) (hjk : j ≤ k) (hg : Gl X x) (hdb : (x == ("__debug__" : Str)) = false := by decide) : CE X T W (.Call (.Name x p) [] [] pos) (dCB F dNil) := by
  obtain ⟨f, hm, hk, fa⟩ := c.ex
  refine ⟨fun pins s σ H Q I h => ?_⟩
  obtain ⟨ρ, S, m, hE, hS, q⟩ := h
  refine wpAny_Call_Name_kw (ld_glob I hg hm ?_ hdb)
  exact PySem.W.callWith_K0 I.kIn hk ((fa.mono hjk).call C.room C.gd C.tk I .nil hS RepL.nil q)
/-- the context of a def's body -/
theorem ctx_of {Z : Wd} {N : List Str} {sc : Scope} {f : Addr} {cdv : Value} {A : Around} {outer : List Env} {s : Shared} {H : Hp} {E : XK} (hr : Room k (A.deeper (envOfC x sc s.heap.objs.size f cdv))) (hg : A.guards = some []) : Ctx (Z.cx N x sc f cdv A outer s H E) k (fun c d _ H => E c d H) :=
  ⟨hr, hg, rfl, takes_of rfl rfl rfl rfl, passes_of rfl⟩
/-- the context of a comprehension's block -/
theorem Ctx.blk (C : Ctx X k W) {s : Shared} {H : Hp} {scope : Scope} {cenv : Env} {fp : List Addr} : Ctx (X.blk s H scope cenv fp) k W0 := ⟨C.room, C.gd, C.calm, takes0, PassesOwn.never⟩
end
end Mi
end
section
set_option Elab.async false
set_option linter.all false
set_option maxRecDepth 100000
set_option maxHeartbeats 2000000
namespace Mi
open PySem PySem.Spec PyProof.Rows L2

/-! ### own errors -/
abbrev veMro : List Value := [.type "ValueError", .type "Exception", .type "BaseException", .type "object"]
/-- an own error without fields, a ValueError -/
structure EC (K : PySem.W.Frag) (mg : Str → Option Value) (x : Str) : Prop where
  ex : ∃ C, mg x = some (.ref C) ∧ PySem.W.keepIn K (.ref C) = true ∧ PySem.W.excIn K C veMro "ValueError.__new__" = true ∧
    PySem.W.subIn K (.ref C) (.type "BaseException") = some true ∧ PySem.W.typeIn K (.ref C) = some (.type "type") ∧ ExcC K C
section
variable {X : Cx} {C : Addr} {bmB : List Value} {B newId initId : String}
/-- X() -/
theorem pmk_own0 {x : Str} {p pos : Pos} (F : ExcBaseFacts B newId initId bmB) (q : PySem.W.excIn X.K C bmB newId = true) (gC : X.mg x = some (.ref C)) (kC : PySem.W.keepIn X.K (.ref C) = true) (r : Raises X (.ref C)) (hg : Gl X x)
    (hdb : (x == ("__debug__" : Str)) = false := by decide) : PMk X (.Call (.Name x p) [] [] pos) (fun _ H Q => Q (.ref C) none H) := fun pins s σ H Q I h => by
  refine wpAny_Call_Name_kw (ld_glob I hg gC (PySem.W.callWith_K0 I.kIn kC ?_) hdb)
  obtain ⟨bm, N, nm, qn, bs, hdct, sn, sub, ab, col, dd, k0, k1, k2, k3, k5, mN, hC, hN, hni, T⟩ := exc_obj I.kIn q
  exact wpAny_call_exc_subT F T hC hN hni (fun h' e hm => mk_of I hm r h (I.hok.gone hm.new)) (Nat.zero_le _)
end
def dRaise (x : Str) : EnP → Sto → SR := fun ρ S => .exc x [] ρ S
theorem cs_raise0 {X : Cx} {T : Tb} {W : WX} {x : Str} {p pos pos2 : Pos} (e : EC X.K X.mg x) (hc : X.calm = true) (tk : Takes X W) (hg : Gl X x) (hdb : (x == ("__debug__" : Str)) = false := by decide) :
    CS X T W (.Raise (some (.Call (.Name x p) [] [] pos)) none pos2) (dRaise x) := by
  obtain ⟨C, h1, h2, h3, h4, h5, _⟩ := e.ex
  refine ps_imp (ps_raise hc tk (pmk_own0 PySem.F.excBase_ValueError h3 h1 h2 (raises_own h4 h5) hg hdb)) fun D σ H ⟨ρ, S, m, hE, hS, p⟩ => ?_
  exact p m H σ (.ref C) none (Step.refl m H) hS hE ⟨C, h1, rfl, fun _ => rfl, fun n => absurd rfl n⟩

/-! ### try: body, except x as n: suite (the suite looks at the error, and returns a flat value) -/
def errEnv (n i : Nat) : EnP := (List.replicate n none).set i (some .err)
def tryEnd (ρ1 : EnP) (c : Str) (fs : List (Str × PV)) (S1 : Sto) : Option Bool → SR → SR
  | some true, .rt v S2 => if flatP v = true then .rt v S1 else .bad
  | some true, _ => .bad
  | some false, _ => .exc c fs ρ1 S1
  | none, _ => .bad
def dTry (i : Nat) (cat : Str → Option Bool) (db : EnP → Sto → SR) (ds : Str → List (Str × PV) → EnP → Sto → SR) : EnP → Sto → SR := fun ρ S => match db ρ S with
  | .exc c fs ρ1 S1 => tryEnd ρ1 c fs S1 (cat c) (ds c fs (errEnv ρ1.length i) [])
  | r => r
/-- under an error -/
abbrev Tb.err (T : Tb) (d : Option Addr) : Tb := ⟨T.tabs, T.lm, d⟩
abbrev gE (X : Cx) (T : Tb) (a : Addr) (d : Option Addr) : Gm := ⟨X.K, X.mg, T.err d, some (.ref a)⟩
theorem flat_any {g g' : Gm} {m m' : Mm} {H H' : Hp} {x : PV} {v : V} (h : flatP x = true) (r : Rep g m H x v) : Rep g' m' H' x v := by
  cases x with
  | non => rw [rep_non r]; exact mk_non
  | bl b => rw [rep_bl r]; exact mk_bl b
  | int i => rw [rep_int r]; exact mk_int i
  | str s => rw [rep_str r]; exact mk_str s
  | _ => cases h
theorem step_hid {m m2 : Mm} {H H2 : Hp} {l : List Addr} (s : Step ⟨[], l⟩ H m2 H2) : Step m H m H2 :=
  ⟨⟨[], by simp⟩, fun _ h => h, fun a h1 h2 => absurd h1 h2, fun a h1 h2 => absurd h1 h2, fun a o _ e n => s.keep a o (by simp) e n, s.tup, s.frz⟩
theorem relS_hid {g : Gm} {m m2 : Mm} {S : Sto} {H H2 : Hp} {l : List Addr} (h : RelS g m S H) (s : Step ⟨[], l⟩ H m2 H2) (t : LamX.Tabs g.T.tabs H2) : RelS g m S H2 :=
  ⟨h.len, h.nd, fun a ha => ⟨(h.exs a ha).1, (h.exs a ha).2.imp fun vs e => ⟨s.keep a _ (by simp) e.1 e.2.nt, e.2⟩⟩, fun n xs e => by
    obtain ⟨a, vs, e1, e2, e3⟩ := h.at_ n xs e
    exact ⟨a, vs, e1, s.keep a _ (by simp) e2 e3.tr.nt, RSO.step (step_hid s) e3⟩, t⟩
theorem relS_none {g g' : Gm} {m : Mm} {S : Sto} {H : Hp} (h : RelS g m S H) (et : g'.T.tabs = g.T.tabs) : RelS g' ⟨[], m.ix ++ m.ex⟩ [] H :=
  ⟨rfl, List.nodup_nil, fun a ha => ⟨by simp, by
    rcases List.mem_append.mp ha with z | z
    · exact h.tracked z
    · exact (h.exs a z).2⟩, fun n xs e => by simp at e, by rw [et]; exact h.tab⟩
section
variable {X : Cx} {T : Tb} {W : WX} {x n : Str} {c : Value} {i : Nat} {body suite : List Stmt} {b₀ : Stmt} {np pos pos' : Pos} {db : EnP → Sto → SR} {ds : Str → List (Str × PV) → EnP → Sto → SR} {cat : Str → Option Bool}
theorem cs_try (hs : X.stack = X.env :: X.outer) (hf : X.env.frame = some X.env.locals) (hN : X.N.Nodup) (hi : X.N[i]? = some n) (hln : X.env.kindOf n = some .local) (hc : Names X x c) (tk : Takes X W)
    (hcat : ∀ c' b, cat c' = some b → ∀ C, X.mg c' = some (.ref C) → PySem.W.exmOne X.K (.ref C) c = some b)
    (hb : ∀ (W : WX) (pn : List (Addr × Obj)) (xe : Value → Shared → Prop), Takes (X.tr pn xe) W → PassesOwn (model X.prog X.w) X.A X.env xe → CSs (X.tr pn xe) T W body db)
    (hsu : ∀ (c' : Str) (fs : List (Str × PV)) (C a : Addr) (oe : Obj) (d : Option Addr) (pn : List (Addr × Obj)), X.mg c' = some (.ref C) → (fs = [] → d = none) → Zc (.ref C) d oe → (∃ vs, oe.data = .fields vs) → CSs (X.suite a ((a, oe) :: pn)) (T.err d) W0 (b₀ :: suite) (ds c' fs)) :
    CS X T W (.Try body [.ExceptHandler (some (.Name x np)) (some n) (b₀ :: suite) pos'] [] [] pos) (dTry i cat db ds) := by
  refine ps_imp (ps_try_as (tb := fun W => ts (gm X T) W db) (ts := fun a cls d D σ H => ∃ c' fs C, cls = .ref C ∧ X.mg c' = some (.ref C) ∧ (fs = [] → d = none) ∧ ts (gE X T a d) W0 (ds c' fs) D σ H) (Wout := W) hs hf hN hi hln hc tk hb fun a oe cls d pn hz hv => ?_) fun D σ H ⟨ρ, S, m, hE, hS, p⟩ => ⟨ρ, S, m, hE, hS, ?_⟩
  · refine ⟨fun pins s σ H D I h => ?_⟩
    obtain ⟨c', fs, C, rfl, e1, e2, h⟩ := h
    exact (hsu c' fs C a oe d pn e1 e2 hz hv).run pins s σ H D I h
  · unfold dTry at p
    cases hd : db ρ S with
    | exc c' fs ρ1 S1 =>
      simp only [hd] at p
      intro m' H' σ' cls dd s hS' hE' hx
      obtain ⟨C, e1, rfl, e2, e4⟩ := hx
      cases hcb : cat c' with
      | none => simp only [hcb] at p; exact p.elim
      | some b =>
        refine ⟨b, hcat c' b hcb C e1, fun eb a na => ?_, fun eb => ?_⟩
        · subst eb
          rw [hcb] at p
          cases hds : ds c' fs (errEnv ρ1.length i) [] with
          | rt v S2 =>
            rw [hds] at p
            have pq : PostS (gm X T) W D m H (if flatP v = true then .rt v S1 else .bad) := p
            by_cases hv : flatP v = true
            · rw [if_pos hv] at pq
              have v1 := hv
              refine ⟨c', fs, C, rfl, e1, e2, errEnv ρ1.length i, [], ⟨[], m'.ix ++ m'.ex⟩, ⟨?_, fun j u ej => ?_⟩, relS_none hS' rfl, ?_⟩
              · unfold errEnv
                rw [List.length_set, List.length_replicate, List.length_set, hE'.len]
              · unfold errEnv at ej
                by_cases hj : i = j
                · subst hj
                  by_cases hl : i < ρ1.length
                  · rw [List.getElem?_set_self (by rw [List.length_replicate]; exact hl)] at ej
                    cases ej
                    refine ⟨.ref a, by rw [List.getElem?_set_self (by rw [← hE'.len]; exact hl)], ?_⟩
                    unfold Rep
                    refine ⟨a, rfl, rfl, fun d ed => ?_⟩
                    have ed : dd = some d := ed
                    by_cases fe : fs = []
                    · rw [e2 fe] at ed; cases ed
                    · obtain ⟨d', ws, q1, q2, _⟩ := e4 fe
                      rw [ed] at q1
                      cases q1
                      refine ⟨⟨by simp, fun z => ?_⟩, ws, q2⟩
                      rcases List.mem_append.mp z with y | y
                      · obtain ⟨u, e, t⟩ := hS'.tracked y
                        rw [q2] at e; cases e
                        rcases t with ⟨_, t⟩ | ⟨_, t⟩ | ⟨_, _, t⟩ <;> cases t
                      · obtain ⟨u, e, t⟩ := (hS'.exs d y).2
                        rw [q2] at e; cases e
                        rcases t with ⟨_, t⟩ | ⟨_, t⟩ | ⟨_, _, t⟩ <;> cases t
                  · rw [List.getElem?_eq_none (by rw [List.length_set, List.length_replicate]; omega)] at ej; cases ej
                · rw [List.getElem?_set_ne hj, List.getElem?_replicate] at ej
                  split at ej <;> cases ej
              · rw [hds]
                intro m2 H2 w s2 hS2 hr
                have t2 : LamX.Tabs T.tabs H2 := hS2.tab
                exact pq m' H2 w (s.trans (step_hid s2)) (relS_hid hS' s2 t2) (flat_any v1 hr)
            · rw [if_neg hv] at pq; exact pq.elim
          | _ => rw [hds] at p; exact p.elim
        · subst eb
          rw [hcb] at p
          have p2 : PostS (gm X T) W D m H (.exc c' fs ρ1 S1) := by
            cases hds : ds c' fs (errEnv ρ1.length i) [] <;> (rw [hds] at p; exact p)
          exact p2 m' H' σ' (.ref C) dd s hS' hE' ⟨C, e1, rfl, e2, by assumption⟩
    | _ => simp only [hd] at p; exact p
/-- isinstance(error, C) in a suite -/
def fIsE (isT : PV → Option Bool) : List PV → Sto → Res PV
  | [.err, t], S => match isT t with
    | some b => .ok (.bl b) S
    | none => .bad
  | _, _ => .bad
/-- what the classes say: c's errors are of the type t -/
def IsT (K : PySem.W.Frag) (mg : Str → Option Value) (C : Addr) (isT : PV → Option Bool) : Prop :=
  (∀ x b, isT (.glb x) = some b → ∀ D, mg x = some (.ref D) → PySem.W.kitOne K (.ref C) (.ref D) = some b) ∧ (∀ n b, isT (.ty n) = some b → PySem.W.kitOne K (.ref C) (.type n) = some b) ∧
    ∀ t, (∀ x, t ≠ .glb x) → (∀ n, t ≠ .ty n) → isT t = none
theorem sl_isE {a D : Addr} {pn : List (Addr × Obj)} {isT : PV → Option Bool} (ht : IsT X.K X.mg D isT) : SndL (gm (X.suite a pn) T) (rIsE X.K D a) (fIsE isT) := by
  intro W σ m S H xs vs Q hS r p
  unfold fIsE at p
  split at p
  · rename_i t
    obtain ⟨v, u, rfl, r1, r2⟩ := two_rep r
    unfold Rep at r1
    obtain ⟨a', e1, rfl, _⟩ := r1
    have e1 : some (Value.ref a) = some (.ref a') := e1
    cases e1
    split at p
    · rename_i b eb
      cases t with
      | glb x =>
        unfold Rep at r2
        obtain ⟨Dx, e2, rfl⟩ := r2
        exact ⟨.ref Dx, .ref Dx, b, rfl, fun u hu => hu, ht.1 x b eb Dx e2, p.here hS (mk_bl b)⟩
      | ty n =>
        cases rep_ty r2
        exact ⟨.ty n, .type n, b, rfl, fun u hu => hu, ht.2.1 n b eb, p.here hS (mk_bl b)⟩
      | _ => rw [ht.2.2 _ (fun x z => by cases z) (fun n z => by cases z)] at eb; cases eb
    · exact p.elim
  · exact p.elim
/-- isinstance(error, C) in a suite, the error with fields -/
def rIsEd (K : PySem.W.Frag) (D a dx : Addr) : List V → Hp → VK → Prop := fun vs G R => ∃ (c : V) (u : Value) (ans : Bool), vs = [.ref a, c] ∧ (∀ z, RelV c z → z = u) ∧ PySem.W.kitOne K (.ref D) u = some ans ∧ (∃ ws, G dx = some (.xd ws)) ∧ R (.bl ans) G
theorem call_isEd {X : Cx} {a D dx : Addr} {oe : Obj} {pn : List (Addr × Obj)} (hD : ExcC X.K D) (hz : Zc (.ref D) (some dx) oe) (hf : ∃ vs, oe.data = .fields vs) : CallR (X.suite a ((a, oe) :: pn)) (.builtin "isinstance") (rIsEd X.K D a dx) := by
  intro pz sz σz G vs us R J rv hh
  obtain ⟨c, u, ans, rfl, hu, e1, ⟨ws, hw⟩, q⟩ := hh
  cases rv with
  | cons r1 rs =>
    cases rs with
    | cons r2 rs =>
      cases rs
      cases r1
      cases hu _ r2
      obtain ⟨at_, _⟩ := J.pin (a, oe) (List.mem_append_left _ (List.mem_cons_self))
      obtain ⟨mA, ⟨od, es, ep, ho, _⟩, _⟩ := J.hok dx _ hw
      obtain ⟨fs, hfs⟩ := hf
      obtain ⟨oc, odi, oda, osl⟩ := oe
      obtain ⟨z1, z2⟩ := hz
      dsimp only at z1 z2 hfs
      subst z1 z2 hfs
      have ia : PySem.W.InstAt sz.heap a _ D (some od) := ⟨at_, rfl, rfl, ho⟩
      have cls : (PySem.W.clsIn X.K D).isSome = true := by
        obtain ⟨cd, hc, _⟩ := PySem.W.any_some hD.hd
        rw [hc]; rfl
      exact PySem.W.kia_one (PySem.W.kitx_exc cls hD.hg hD.hk hD.hs hD.ha hD.hn hD.ht hD.hm) J.kIn ia e1 (by intro z; cases z) fun tk => ⟨.bl ans, G, J.kept (t' := tk) (by intro _ _ z; exact z), rfl, q⟩
theorem sl_isEd {a D dx : Addr} {pn : List (Addr × Obj)} {isT : PV → Option Bool} (he : T.ed = some dx) (ht : IsT X.K X.mg D isT) : SndL (gm (X.suite a pn) T) (rIsEd X.K D a dx) (fIsE isT) := by
  intro W σ m S H xs vs Q hS r p
  unfold fIsE at p
  split at p
  · rename_i t
    obtain ⟨v, u, rfl, r1, r2⟩ := two_rep r
    unfold Rep at r1
    obtain ⟨a', e1, rfl, r3⟩ := r1
    obtain ⟨_, hd⟩ := r3 dx he
    have e1 : some (Value.ref a) = some (.ref a') := e1
    cases e1
    split at p
    · rename_i b eb
      cases t with
      | glb x =>
        unfold Rep at r2
        obtain ⟨Dx, e2, rfl⟩ := r2
        exact ⟨.ref Dx, .ref Dx, b, rfl, fun u hu => hu, ht.1 x b eb Dx e2, hd, p.here hS (mk_bl b)⟩
      | ty n =>
        cases rep_ty r2
        exact ⟨.ty n, .type n, b, rfl, fun u hu => hu, ht.2.1 n b eb, hd, p.here hS (mk_bl b)⟩
      | _ => rw [ht.2.2 _ (fun x z => by cases z) (fun n z => by cases z)] at eb; cases eb
    · exact p.elim
  · exact p.elim
end

/-! ### l.count(x) of plain data -/
def fCount (x y : PV) (S : Sto) : Res PV := match toDS x S, toD y with
  | some (.list ds), some d => if PyData.plainAll ds = true ∧ d.plain = true ∧ d.depth ≤ 9 then .ok (.int ((ds.countP fun z => PyData.eqv z d : Nat) : Int)) S else .bad
  | _, _ => .bad
def rCountD (K : PySem.W.Frag) : V → List V → Hp → VK → Prop := fun x xs H Q => ∃ (a : Addr) (y : V) (d : PyData) (ds : List PyData), x = V.ref a ∧ xs = [y] ∧ Dp K H (V.ref a) (.list ds) ∧ Dp K H y d ∧
  PyData.plainAll ds = true ∧ d.plain = true ∧ d.depth ≤ 9 ∧ Q (.int ((ds.countP fun z => PyData.eqv z d : Nat) : Int)) H
theorem mt_countD {X : Cx} (hu : X.A.units + 65 < cLine) : MtR X "list.count" (rCountD X.K) := by
  intro pins s σ H x xs v us Q I rx rxs h
  obtain ⟨a, y, d, ds, rfl, rfl, hl, hy, h1, h2, h3, q⟩ := h
  cases rx
  cases rxs with
  | cons ry rt =>
    cases rt
    obtain ⟨bs, r1⟩ := Dp.reads I d y _ hy ry
    cases hl with
    | lst hs ha =>
      obtain ⟨its, rv, pl, hlen⟩ := I.list hs
      obtain ⟨as, h4⟩ := Dp.readsAll I ds _ its ha rv
      exact SeqAt.count_list_data pl.isList (by simpa using h4) r1 h1 h2 (by omega) ⟨.int _, H, I.tok _, ⟨_, rfl⟩, q⟩
def count1 (x : PV) (S : Sto) : List PV → Res PV
  | [y] => fCount x y S
  | _ => .bad
def dCount (d : EnP → Sto → Res PV) (dl : EnP → Sto → Res (List PV)) : EnP → Sto → Res PV := fun ρ S => (d ρ S).bind fun x S1 => if (lstOf x S1).isSome = true then (dl ρ S1).bind fun ys S2 => count1 x S2 ys else .bad
theorem type_list_count : typeOf (.builtin "list.count") = pure (.type "method_descriptor") := by show builtinType "list.count" = _; first | rfl | kernel_rfl
section
variable {X : Cx} {T : Tb} {W : WX} {o e : Expr} {es : List Expr} {d : EnP → Sto → Res PV} {dl : EnP → Sto → Res (List PV)} {apos cpos : Pos}
theorem ce_count (hu : X.A.units + 65 < cLine) (ho : CE X T W o d) (ha : CA X T W (e :: es) dl)
    (hbase : attributeBase o "count" X.env (eval o X.env) = eval o X.env := by rfl)
    (hfew : ((backTo cpos (starEach (e :: es) X.env)).all (fun x => !x.1) && (backToKw cpos (keywordEach [] X.env)).all (fun x => x.1.isSome)
      && decide ((e :: es).length + ([] : List Keyword).length + (if ([] : List Keyword).isEmpty then 0 else 1) < 30)) = true := by rfl)
    (hline : (apos.endLine == cpos.line) = true := by rfl) (hs : starEach (e :: es) X.env = (false, eval e X.env) :: starEach es X.env := by rfl) (hplain : (backTo cpos (starEach es X.env)).any (·.1) = false := by rfl) :
    CE X T W (.Call (.Attribute o "count" apos) (e :: es) [] cpos) (dCount d dl) :=
  pe_imp (pe_bm PySem.F.plainAttrs_list PySem.F.slot_list_count type_list_count (mt_countD hu) ho ha hbase hfew hline hs hplain) fun σ H Q ⟨ρ, S, m, hE, hS, p⟩ =>
    tr_bind (f := fun (x : PV) (ρ : EnP) (S1 : Sto) => if (lstOf x S1).isSome = true then (dl ρ S1).bind fun ys S2 => count1 x S2 ys else .bad) hE hS p fun x S1 m1 H1 w s1 hE1 hS1 hr1 p1 => by
      cases e0 : lstOf x S1 with
      | none => rw [e0] at p1; exact p1.elim
      | some xs0 =>
        rw [e0, if_pos (show (some xs0).isSome = true from rfl)] at p1
        obtain ⟨a, vs0, rfl, f1, _⟩ := lstOf_rep hS1 hr1 e0
        refine ⟨.inl ⟨rfl, vs0, f1⟩, tr_bind (f := fun (ys : List PV) (_ : EnP) (S2 : Sto) => count1 x S2 ys) hE1 hS1 p1 fun ys S2 m2 H2 ws s2 hE2 hS2 hr2 p2 => ?_⟩
        unfold count1 at p2
        split at p2
        · rename_i y
          obtain ⟨u, rfl, ru⟩ := one_rep hr2
          unfold fCount at p2
          split at p2
          · rename_i ds dd h1 h2
            split at p2
            · rename_i h
              exact ⟨a, u, dd, ds, rfl, rfl, dpS_of hS2 (hr1.step s2) h1, dp_of y u dd ru h2, h.1, h.2.1, h.2.2, p2.here hS2 (mk_int _)⟩
            · exact p2.elim
          · exact p2.elim
        · exact p2.elim
end
end Mi
end
section
set_option Elab.async false
set_option linter.all false
set_option maxRecDepth 100000
set_option maxHeartbeats 2000000
namespace Mi
open PySem PySem.Spec PyProof.Rows L2

/-! ### a lambda without parameters, handed to a def -/
theorem gm_bare {X : Cx} {T : Tb} (h : X.A.handled = none) (ht : T.lm = none) : Bare (gm X T) := by
  show Gm.mk X.K X.mg ⟨T.tabs, none, T.ed⟩ none = Gm.mk X.K X.mg T X.A.handled
  rw [h, ← ht]
/-- what stays while it may be called: its names' values, its code -/
def lamI (g : Gm) (f c' : Addr) (q : Str) (ρ : EnP) (σ : L2.St) : LmI :=
  ⟨f, fun m H => RelE g m H ρ σ ∧ m.no c' ∧ H c' = some (LamX.CodeO c' q), fun m H m' H' e ⟨h1, h2, h3⟩ => by
    obtain ⟨k1, k2⟩ := e.keep c' _ h2 h3 (fun ps z => LamX.codeO_ne ps z) (fun k z => by unfold LamX.CodeO at z; cases z)
    exact ⟨h1.emw e, k1, k2⟩⟩
def dAct (i : Nat) (C : Sto → Res PV) : EnP → Sto → Res PV := fun ρ S => match ρ[i]? with
  | some (some .lam) => C S
  | _ => .bad
theorem relS_as {g g' : Gm} {m : Mm} {S : Sto} {H : Hp} (e : g.bare = g'.bare) (h : RelS g m S H) : RelS g' m S H :=
  ⟨h.len, h.nd, h.exs, fun n xs q => by rw [← e]; exact h.at_ n xs q, by have := congrArg (fun z : Gm => z.T.tabs) e; exact this ▸ h.tab⟩
theorem repF_up {g : Gm} {m : Mm} {H : Hp} : ∀ {fs : List (Str × PV)} {ws : List (Str × V)}, RepF g.bare m H fs ws → RepF g m H fs ws
  | [], _, h => h
  | (f, x) :: r, _, h => by
    unfold RepF at h ⊢
    obtain ⟨v, us, e, h1, h2⟩ := h
    exact ⟨v, us, e, Rep.up x v h1, repF_up h2⟩
theorem excR_up {g : Gm} {m : Mm} {H : Hp} {c : Str} {fs : List (Str × PV)} {cls : Value} {dd : Option Addr} (h : ExcR g.bare m H c fs cls dd) : ExcR g m H c fs cls dd := by
  obtain ⟨C, h1, h2, h3, h4⟩ := h
  refine ⟨C, h1, h2, h3, fun n => ?_⟩
  obtain ⟨d, ws, e1, e2, e3⟩ := h4 n
  exact ⟨d, ws, e1, e2, repF_up e3⟩
/-- from the post of a wider place to that of a bare one -/
theorem post_bare {g : Gm} {W W' : WX} {σ σ' : L2.St} {m : Mm} {H : Hp} {Q : VK} {r : Res PV} (hW : ∀ c d H, W c d σ H → W' c d σ' H) (p : PostV g W σ m H Q r) : PostV g.bare W' σ' m H Q r := by
  cases r with
  | ok v S => exact fun m' H' w s h1 h2 => p m' H' w s (relS_as (g := g.bare) (g' := g) rfl h1) (Rep.up _ _ h2)
  | exc c fs S => exact fun m' H' cls dd s h1 h2 => hW _ _ _ (p m' H' cls dd s (relS_as (g := g.bare) (g' := g) rfl h1) (excR_up h2))
  | bad => exact p
section
variable {X : Cx} {T : Tb} {pins : List (Addr × Obj)} {σ : L2.St} {H : Hp} {s : Shared}
abbrev wT (T : Tb) (i : LmI) : Tb := ⟨T.tabs, some i, T.ed⟩
/-- x() in the def that got it -/
theorem lam_act {Eg : XK} {Ng : List Str} {qg : Str} {sg : Scope} {g f c' : Addr} {cdg pm ctv : Value} {params : Arguments} {body : Expr} {scope : Scope} {k i : Nat} {a : Str} {pn : List (Addr × Obj)} {xe : Value → Shared → Prop} {W : WX} {p1 p2 : Pos} {ρ : EnP} {db : EnP → Sto → Res PV}
    (I : Inv X pins σ H s) (L : LamX.LamS X.env.scope scope) (hX : X.A.handled = none) (hTl : T.lm = none) (hgX : X.A.guards = some [])
    (hf : s.heap.get? f = some (PySem.W.kla_obj "<lambda>" (X.env.qual ++ "<lambda>") params body scope (cloFrom X.env.cells scope.names []) pm c' ctv)) (hfn : H f = none) (hfr : f ∉ frs X.stack)
    (hbind : bindArgs (PySem.W.kla_fn "<lambda>" (X.env.qual ++ "<lambda>") params body scope (cloFrom X.env.cells scope.names []) pm (.ref c') ctv) ⟨[], []⟩ = pure [])
    (tk : Takes (((wdOf X T).cx Ng qg sg g cdg X.A X.stack s H Eg).tr pn xe) W) (hr : Room (k + 1) (X.A.deeper (envOfC qg sg s.heap.objs.size g cdg)))
    (hbody : ∀ (A : Around) (outer : List Env) (s1 : Shared) (H1 : Hp) (E : XK), Room k (A.deeper (LamX.lamEnv X scope s1.heap.objs.size f c')) → A.guards = some [] → CE (LamX.lamCx X A outer s1 H1 E scope f c') T (fun c d _ H => E c d H) body db)
    (hN : Ng[i]? = some a) (hv : Vis sg a) (hd : (a == ("__debug__" : Str)) = false := by decide) (hcd : (a == ("__classdict__" : Str)) = false := by decide) :
    CE (((wdOf X T).cx Ng qg sg g cdg X.A X.stack s H Eg).tr pn xe) (wT T (lamI (gm X T) f c' (X.env.qual ++ "<lambda>") ρ σ)) W (.Call (.Name a p1) [] [] p2) (dAct i fun S => db ρ S) := by
  refine ⟨fun pz sz σz Hz Q Iz ⟨ρz, S, m, hE, hS, p⟩ => ?_⟩
  unfold dAct at p
  split at p
  case h_2 => exact p.elim
  rename_i ei
  obtain ⟨w, ew, rw_⟩ := hE.at_ i _ ei
  unfold Rep at rw_
  obtain ⟨j, ej, rfl, hΦ⟩ := rw_
  cases ej
  obtain ⟨hEx, hno, hco⟩ := hΦ
  refine wpAny_Call_Name_kw (thn ((pe_var (pos := p1) (i := i) hN hv hd hcd).run pz sz σz Hz (fun v H1 => v = .ref f ∧ H1 = Hz) Iz ⟨.ref f, ew, rfl, rfl⟩) fun u s1 ⟨v, H1, I1, r1, q1, q2⟩ => ?_)
  rw [q1] at r1
  rw [q2] at I1
  obtain rfl : u = Value.ref f := r1
  have here : s1.heap.get? f = some (PySem.W.kla_obj "<lambda>" (X.env.qual ++ "<lambda>") params body scope (cloFrom X.env.cells scope.names []) pm c' ctv) := I1.base.keep f _ hf hfn hfr (fun z => nomatch (show f ∈ ([] : List Addr) from z))
  have un : Un (frs X.stack) [] H Hz s.heap s1.heap := I1.base
  obtain ⟨⟨oc, us, t, hoc, hdc, hvc⟩, _, _⟩ := I1.hok c' _ hco
  have hAd : (X.A.deeper (envOfC qg sg s.heap.objs.size g cdg)).handled = none := hX
  have pb : PostV (gm X T) (fun c d _ H => W c d σz H) σ m Hz Q (db ρ S) := by
    have q := post_bare (W' := fun c d _ H => W c d σz H) (σ' := σ) (fun _ _ _ h => h) p
    rw [← gm_bare hX hTl]
    exact q
  refine PySem.W.callWith_F0 ⟨_, _, _, _, here⟩ (wpAny_call (codeAny_mono (R := CR (L2.CX X.prog X.w) (envOfC qg sg s.heap.objs.size g cdg :: X.stack) X.prog X.w Hz s1 Q (fun c d H => W c d σz H)) ?_ fun r s' hq => ?_))
  · refine PySem.W.kla_callFunE hr.depth here rfl L.co L.gen rfl ⟨c', oc, us, t, rfl, hoc, hdc, hvc⟩ ?_
    rw [List.append_nil, hbind]
    refine wpAny_pure (wpAny_newFunctionEnv (fun y hy => (L.own y hy).2) (fun y hy => absurd hy (by simp)) (fun h₁ hns hsb => ⟨I1.nolimit.fresh _ hsb, ?_⟩) L.kind)
    show codeAny _ _ (.expr body (LamX.lamEnv X scope s1.heap.objs.size f c')) _ _
    have J := LamX.lam_start2 (E := fun c d H => W c d σz H) (f := f) (c' := c') (tk := s1.toks + ([] : List (Str × Value)).length) I L I1.env0 hAd un hns fun b o e => hsb.extBut b o (Nat.ne_of_lt (Heap.lt_size e)) (Heap.get?_push_of_some _ e)
    have hb := hbody _ (envOfC qg sg s.heap.objs.size g cdg :: X.stack) s1 Hz (fun c d H => W c d σz H) (hr.deeper _) hgX
    have eg : gm X T = gm (LamX.lamCx X (X.A.deeper (envOfC qg sg s.heap.objs.size g cdg)) (envOfC qg sg s.heap.objs.size g cdg :: X.stack) s1 Hz (fun c d H => W c d σz H) scope f c') T := rfl
    refine PySem.W.kla_codeExpr (wpAny_mono (hb.run [] _ σ Hz Q J ⟨ρ, S, m, hEx, ?_, pb⟩) (fun v s' hq => ?_) fun e s' hq => hq)
    · exact relS_as (by show Gm.bare _ = Gm.bare _; rfl) hS
    · obtain ⟨w', H', J', rv, q⟩ := hq
      exact ⟨w', H', J'.os, J'.bare, J'.base, J'.hok, rv, q⟩
  · cases r with
    | error e => exact tk e s' (XE.of_call I1 (fun _ _ _ h => h) hq)
    | ok fl =>
      cases fl with
      | ret u => exact I1.after hq
      | _ => exact False.elim hq
end
/-! ### the def that gets it -/
def cleanR : Res PV → Res PV
  | .ok v S => if flatP v = true then .ok v S else .bad
  | .exc c [] S => .exc c [] S
  | _ => .bad
structure FL (Z : Wd) (k : Nat) (x : Str) (G : (Sto → Res PV) → Sto → Res PV) : Prop where
  ex : ∃ (g : Addr) (st : Stmt) (cdv : Value) (N : List Str) (a : Str) (d : (Sto → Res PV) → EnP → Sto → SR), Z.mg x = some (.ref g) ∧ PySem.W.keepIn Z.K (.ref g) = true ∧ FunC Z.K x st g cdv ∧ FnScope N [a] (defScope st) ∧ BindC x st [a] ∧
    N[0]? = some a ∧ Vis (defScope st) a ∧ (a == ("__debug__" : Str)) = false ∧ (a == ("__classdict__" : Str)) = false ∧ (∀ C S, G C S = cleanR (runF 1 N.length (d C) [.lam] S)) ∧
    ∀ (i : LmI) (C : Sto → Res PV) (A : Around) (outer : List Env) (s : Shared) (H : Hp) (E : XK), Room k (A.deeper (envOfC x (defScope st) s.heap.objs.size g cdv)) → A.guards = some [] →
      (∀ (pn : List (Addr × Obj)) (xe : Value → Shared → Prop) (W : WX) (p1 p2 : Pos), Takes ((Z.cx N x (defScope st) g cdv A outer s H E).tr pn xe) W → CE ((Z.cx N x (defScope st) g cdv A outer s H E).tr pn xe) (wT Z.T i) W (.Call (.Name a p1) [] [] p2) (dAct 0 C)) →
      CSs (Z.cx N x (defScope st) g cdv A outer s H E) (wT Z.T i) (fun c d _ H => E c d H) (defBody st) (d C)
theorem step_extN {m : Mm} {H H1 : Hp} (e : LamX.ExtN H H1) : Step m H m H1 :=
  ⟨⟨[], by simp⟩, fun _ h => h, fun a h1 h2 => absurd h1 h2, fun a h1 h2 => absurd h1 h2, fun a o _ q n => e a o q n, fun a xs q => e a _ q (fun ps z => by cases z), fun a o u q => e a _ q (fun ps z => by cases z)⟩
theorem relS_extN {g : Gm} {m : Mm} {S : Sto} {H H1 : Hp} (h : RelS g m S H) (e : LamX.ExtN H H1) (t : LamX.Tabs g.T.tabs H1) : RelS g m S H1 :=
  ⟨h.len, h.nd, fun a ha => ⟨(h.exs a ha).1, (h.exs a ha).2.imp fun vs q => ⟨e a _ q.1 q.2.nt, q.2⟩⟩, fun n xs q => by
    obtain ⟨a, vs, e1, e2, e3⟩ := h.at_ n xs q
    exact ⟨a, vs, e1, e a _ e2 e3.tr.nt, RSO.step (step_extN e) e3⟩, t⟩
/-- back to the place of the call: what came is flat, or an error without fields -/
theorem post_wide {X Y : Cx} {T : Tb} {i : LmI} {W W' : WX} {σ σ' : L2.St} {m : Mm} {H : Hp} {Q : VK} {r : Res PV} (eK : Y.K = X.K) (eM : Y.mg = X.mg) (hb : Bare (gm X T)) (hW : ∀ c d H, W c d σ H → W' c d σ' H) (p : PostV (gm X T) W σ m H Q (cleanR r)) : PostV (gm Y (wT T i)) W' σ' m H Q r := by
  have eb : (gm Y (wT T i)).bare = (gm X T).bare := by
    show Gm.mk Y.K Y.mg _ _ = Gm.mk X.K X.mg _ _
    rw [eK, eM]
  cases r with
  | ok v S =>
    simp only [cleanR] at p
    by_cases hf : flatP v = true
    · rw [if_pos hf] at p
      exact fun m' H' w s h1 h2 => p m' H' w s (relS_as eb h1) (flat_any hf h2)
    · rw [if_neg hf] at p; exact p.elim
  | exc c fs S =>
    cases fs with
    | nil =>
      intro m' H' cls dd s h1 ⟨C, k1, k2, k3, k4⟩
      exact hW _ _ _ (p m' H' cls dd s (relS_as eb h1) ⟨C, by show X.mg c = _; rw [← eM]; exact k1, k2, k3, fun n => absurd rfl n⟩)
    | cons f r => exact p.elim
  | bad => exact p.elim
section
variable {X : Cx} {T : Tb} {W : WX}
theorem ce_lam {x : Str} {G : (Sto → Res PV) → Sto → Res PV} {kF kl j : Nat} {c P : Addr} {params : Arguments} {body : Expr} {scope : Scope} {p lpos pos : Pos} {db : EnP → Sto → Res PV} (F : FL (wdOf X T) kF x G) (Cx_ : Ctx X j W) (hk1 : kF ≤ kl + 1) (hk2 : kl + 2 ≤ j) (hTl : T.lm = none)
    (hg : Gl X x) (TB : LamX.TabB X.base X.mg c P) (hcode : X.env.code = .ref c) (hmT : (P, X.env.qual ++ "<lambda>") ∈ T.tabs) (hu : ∀ p ∈ T.tabs, p.1 = P → p.2 = X.env.qual ++ "<lambda>") (L : LamX.LamS X.env.scope scope) (hdef : defaultsOf params X.env = ([], []))
    (hbind : ∀ (q : Str) (cl : List (Str × Addr)) (pm cv ctv : Value), bindArgs (PySem.W.kla_fn "<lambda>" q params body scope cl pm cv ctv) ⟨[], []⟩ = pure [])
    (hbody : ∀ (A : Around) (outer : List Env) (s1 : Shared) (H1 : Hp) (E : XK) (f c' : Addr), Room kl (A.deeper (LamX.lamEnv X scope s1.heap.objs.size f c')) → A.guards = some [] → CE (LamX.lamCx X A outer s1 H1 E scope f c') T (fun c d _ H => E c d H) body db)
    (hdb : (x == ("__debug__" : Str)) = false := by decide) : CE X T W (.Call (.Name x p) [.Lambda params body scope lpos] [] pos) (fun ρ S => G (fun S => db ρ S) S) := by
  obtain ⟨g, st, cdv, N, a, d, hm, hk, FC_, Sc, hbd, hN0, hva, hd1, hd2, hG, hB⟩ := F.ex
  refine ⟨fun pins s σ H Q I ⟨ρ, S, m, hE, hS, q⟩ => ?_⟩
  refine wpAny_Call_Name_kw (ld_glob I hg hm ?_ hdb)
  refine PySem.W.callWith_K (h₀ := X.base) I.ok.mod.kin hk ?_ (by rfl) (by rfl)
  show wpAny _ _ (spliced ((false, eval (.Lambda params body scope lpos) X.env) :: backTo pos (starEach [] X.env))) _ _ s
  refine Calls.spliced_cons (LamX.lam_make2 I TB hcode hmT hu hS.tab hdef (L.has I.ok) fun f c' pm' ctv H1 s' I1 eN T1 hf hfn hfr hco => Calls.spliced_nil ⟨I1.kIn, ?_⟩)
  have hS1 := relS_extN hS eN T1
  have st1 : Step m H m H1 := step_extN eN
  have hE1 := hE.step st1
  have nlst : ∀ u, H1 c' = some u → ¬ Tr u := fun u e t => by
    rw [hco] at e
    unfold LamX.CodeO at e
    cases e
    rcases t with ⟨_, q⟩ | ⟨_, q⟩ | ⟨_, _, q⟩ <;> cases q
  have nc : m.no c' := by
    refine ⟨fun z => ?_, fun z => ?_⟩
    · obtain ⟨vs, e, t⟩ := hS1.tracked z
      exact nlst vs e t
    · obtain ⟨_, vs, e, t⟩ := hS1.exs c' z
      exact nlst vs e t
  have hX := Cx_.room.hd
  have hbr : Bare (gm X T) := gm_bare hX hTl
  have q1 : PostV (gm X T) W σ m H1 Q (cleanR (runF 1 N.length (d fun S => db ρ S) [.lam] S)) := by
    have q0 : PostV (gm X T) W σ m H1 Q (G (fun S => db ρ S) S) := PostR.step st1 q
    rw [hG] at q0
    exact q0
  let i : LmI := lamI (gm X T) f c' (X.env.qual ++ "<lambda>") ρ σ
  let Y : Cx := (wdOf X T).cx N x (defScope st) g cdv X.A X.stack s' H1 (fun c d H => W c d σ H)
  have q2 : PostV (gm Y (wT T i)) (fun c d _ H => W c d σ H) (L2.start N [.ref f]) m H1 Q (endOf (d (fun S => db ρ S) (startP N.length [.lam]) S)) := by
    refine post_wide (X := X) (Y := Y) rfl rfl hbr (fun _ _ _ h => h) (σ := σ) (W := W) ?_
    have e : runF 1 N.length (d fun S => db ρ S) [.lam] S = endOf (d (fun S => db ρ S) (startP N.length [.lam]) S) := rfl
    rw [← e]
    exact q1
  have rx : RepL (gm Y (wT T i)) m H1 [.lam] [.ref f] := RepL.cons (by unfold Rep; exact ⟨i, rfl, rfl, hE1, nc, hco⟩) RepL.nil
  have hS2 : RelS (gm Y (wT T i)) m S H1 := relS_as (by show Gm.bare _ = Gm.bare _; rfl) hS1
  have hr2 : Room (kl + 2) X.A := Cx_.room.mono hk2
  have body1 := hB i (fun S => db ρ S) X.A X.stack s' H1 (fun c d H => W c d σ H) ((hr2.deeper _).mono hk1) Cx_.gd fun pn xe W' p1 p2 tk' => lam_act (p1 := p1) (p2 := p2) (ρ := ρ) (db := db) I1 L hX hTl Cx_.gd hf hfn hfr (hbind _ _ _ _ _) tk' (hr2.deeper _) (fun A outer s1 H2 E h1 h2 => hbody A outer s1 H2 E f c' h1 h2) hN0 hva hd1 hd2
  have run := run_body (k := kl + 1) (E := fun c d H => W c d σ H) (Q := Q) FC_ Sc hbd hr2 I1.env0 (show Vals [V.ref f] [Value.ref f] from .cons rfl .nil) rfl body1 ⟨_, S, m, start_rel rx, hS2, endOf_post (fun _ _ _ _ _ h => h) q2⟩
  refine wpAny_call (codeAny_mono run fun r s2 hq => ?_)
  cases r with
  | error e => exact Cx_.tk e s2 (XE.of_call I1 (fun _ _ _ h => h) hq)
  | ok fl =>
    cases fl with
    | ret u => exact I1.after hq
    | _ => exact False.elim hq
end
/-! ### a call of what a name holds: a def of the module -/
def dCallV (i : Nat) (tbl : Str → Option (List PV → Sto → Res PV)) (dl : EnP → Sto → Res (List PV)) : EnP → Sto → Res PV := fun ρ S => match ρ[i]? with
  | some (some (.glb x)) => (match tbl x with
    | some F => (dl ρ S).bind fun xs S1 => F xs S1
    | none => .bad)
  | _ => .bad
section
variable {X : Cx} {T : Tb} {W : WX}
theorem ce_callV {j k i : Nat} {y : Str} {p pos : Pos} {e : Expr} {es : List Expr} {dl : EnP → Sto → Res (List PV)} {tbl : Str → Option (List PV → Sto → Res PV)} (C : Ctx X k W) (c : ∀ x F, tbl x = some F → FC (wdOf X T) j x F) (hjk : j ≤ k) (hN : X.N[i]? = some y) (hv : Vis X.env.scope y) (ha : CA X T W (e :: es) dl)
    (hd : (y == ("__debug__" : Str)) = false := by decide) (hcd : (y == ("__classdict__" : Str)) = false := by decide)
    (he : starEach (e :: es) X.env = (false, eval e X.env) :: starEach es X.env := by rfl) (hpl : (backTo pos (starEach es X.env)).any (·.1) = false := by rfl) : CE X T W (.Call (.Name y p) (e :: es) [] pos) (dCallV i tbl dl) := by
  refine ⟨fun pins s σ H Q I ⟨ρ, S, m, hE, hS, q⟩ => ?_⟩
  unfold dCallV at q
  split at q
  case h_2 => exact q.elim
  rename_i x ei
  cases et : tbl x with
  | none => rw [et] at q; exact q.elim
  | some F =>
    rw [et] at q
    obtain ⟨w, ew, rw_⟩ := hE.at_ i _ ei
    unfold Rep at rw_
    obtain ⟨f0, hm0, rfl⟩ := rw_
    obtain ⟨f, hm, hk, fa⟩ := (c x F et).ex
    have ef : f0 = f := by
      have z := hm0.symm.trans hm
      cases z
      rfl
    subst ef
    refine wpAny_Call_Name_kw (thn ((pe_var (pos := p) (i := i) hN hv hd hcd).run pins s σ H (fun v H1 => v = .ref f0 ∧ H1 = H) I ⟨.ref f0, ew, rfl, rfl⟩) fun u s1 ⟨v, H1, I1, r1, q1, q2⟩ => ?_)
    rw [q1] at r1
    rw [q2] at I1
    obtain rfl : u = Value.ref f0 := r1
    refine PySem.W.callWith_K (h₀ := X.base) I1.ok.mod.kin hk (thn (ha.run pos pins s1 σ H (fun vs H1 => ∃ xs S1 m1, RelS (gm X T) m1 S1 H1 ∧ RepL (gm X T) m1 H1 xs vs ∧ PostV (gm X T) W σ m1 H1 Q (F xs S1)) I1 ?_) fun us s2 ⟨vs, H2, I2, r, xs, S1, m1, a1, a2, a3⟩ => ⟨I2.kIn, (fa.mono hjk).call C.room C.gd C.tk I2 r a1 a2 a3⟩) he hpl
    exact tr_bind (f := fun xs _ S1 => F xs S1) hE hS q fun xs S1 m1 H1 ws s1 hE1 hS1 hr1 p1 => ⟨xs, S1, m1, hS1, hr1, p1⟩
end
end Mi
end
section
set_option Elab.async false
set_option linter.all false
set_option maxRecDepth 100000
set_option maxHeartbeats 2000000
namespace Mi
open PySem PySem.Spec PyProof.Rows L2

/-! ### the end of a law -/
/-- a lambda's maker: its code object, the table of the code objects under it, the lambdas' name -/
structure Lt where
  code : Addr
  tab : Addr
  q : Str
abbrev tabOf (cs : List Lt) : Tb := ⟨cs.map fun c => (c.tab, c.q), none, none⟩
abbrev T0 : Obj := { cls := .none, data := .fields #[] }
/-- what is tracked when the law is called: the tables, and the script if it is no written one -/
def topH (K : PySem.W.Frag) (cs : List Lt) (a : Addr) (vs : List Value) (ns : List Int) : Hp := fun b =>
  if b ∈ cs.map (·.tab) then some (.tbl #[]) else if b = a ∧ K.lookup a = none then some (.frz { cls := .type "list", data := .seq vs.toArray } (.lst (ns.map V.int))) else none
/-- the state at the law's call, told to a def's promise -/
structure TopOk (P : Program) (w : World) (K : PySem.W.Frag) (mg : Str → Option Value) (cs : List Lt) (a : Addr) (ns : List Int) (base : Heap) (s₁ : Shared) (H : Hp) : Prop where
  env : Env0 P w K mg base callerA [] s₁ H
  tabs : ∀ c ∈ cs, H c.tab = some (.tbl #[])
  tabB : ∀ c ∈ cs, LamX.TabB base mg c.code c.tab
  scr : (∃ o, H a = some (HO.frz o (HO.lst (ns.map V.int)))) ∨ SqL K H0 a (ns.map V.int)
theorem run_top {P : Program} {w : World} {K : PySem.W.Frag} {mg mb : Str → Option Value} {fa a : Addr} {cs : List Lt} {s₁ : Shared} {vs : List Value} {ns : List Int}
    (KX : K.In s₁.heap) (hns : s₁.heap.Ns mainGlobals mg) (hb : s₁.heap.Ns builtinsNs mb) (hbb : ∀ x : Str, x ≠ "__name__" → mb x = bootBuiltins x) (hlim : s₁.heap.NoLimit) (hg : s₁.gens = #[])
    (hT : ∀ c ∈ cs, s₁.heap.get? c.tab = some T0) (nT : ∀ c ∈ cs, K.lookup c.tab = none) (hC : ∀ c ∈ cs, PySem.W.CodeHd s₁.heap c.code c.tab)
    (hbm : ∃ (bm : Addr) (ob : Obj), mg "__builtins__" = some (.ref bm) ∧ bm ≠ builtinsNs ∧ s₁.heap.get? bm = some ob ∧ ob.cls = .type "module" ∧ ob.dict = some builtinsNs ∧ ob.data = .plain)
    (ha : s₁.heap.get? a = some { cls := .type "list", data := .seq vs.toArray }) (hi : IntsAre vs ns) (hl : ns.length ≤ sizeLine)
    (F : ∀ base H, K.In base → base.Ns mainGlobals mg → TopOk P w K mg cs a ns base s₁ H → codeAny (model P w) callerA (.call (.ref fa) ⟨[.ref a], []⟩) (CR (L2.CX P w) [] P w H s₁ (fun v _ => v = .bl true) fun _ _ _ => False) s₁) :
    codeAny (model P w) callerA (.call (.ref fa) ⟨[.ref a], []⟩) (fun r s' => r = .ok (.ret (.bool true)) ∧ OldK s₁.heap s'.heap ∧ s'.os = s₁.os ∧ AllBare s'.gens) s₁ := by
  have rv := vals_ints hi
  have lenV := hi.length
  -- what stands at a tracked place
  have trk : ∀ b u, topH K cs a vs ns b = some u → (b ∈ cs.map (·.tab) ∧ u = .tbl #[] ∧ s₁.heap.get? b = some T0) ∨ (b = a ∧ K.lookup a = none ∧ b ∉ cs.map (·.tab) ∧ u = .frz { cls := .type "list", data := .seq vs.toArray } (.lst (ns.map V.int))) := fun b u e => by
    unfold topH at e
    by_cases hb : b ∈ cs.map (·.tab)
    · rw [if_pos hb] at e
      cases e
      obtain ⟨c, hc, rfl⟩ := List.mem_map.mp hb
      exact .inl ⟨hb, rfl, hT c hc⟩
    · rw [if_neg hb] at e
      by_cases h2 : b = a ∧ K.lookup a = none
      · rw [if_pos h2] at e
        cases e
        exact .inr ⟨h2.1, h2.2, hb, rfl⟩
      · rw [if_neg h2] at e
        cases e
  have tabAt : ∀ c ∈ cs, topH K cs a vs ns c.tab = some (.tbl #[]) := fun c hc => if_pos (List.mem_map.mpr ⟨c, hc, rfl⟩)
  have aT : a ∉ cs.map (·.tab) := fun z => by
    obtain ⟨c, hc, e⟩ := List.mem_map.mp z
    have q := hT c hc
    rw [e, ha] at q
    exact Data.noConfusion (congrArg Obj.data (Option.some.inj q))
  -- objects that are no lists and no empty records are not tracked
  have noT : ∀ {b : Addr} {o : Obj}, s₁.heap.get? b = some o → (∀ xs n, o.data ≠ .seq xs n) → o.data ≠ .fields #[] → topH K cs a vs ns b = none := fun {b o} e h1 h2 => by
    cases q : topH K cs a vs ns b with
    | none => rfl
    | some u =>
      rcases trk b u q with ⟨_, _, t⟩ | ⟨eb, _⟩
      · rw [e] at t
        cases t
        exact absurd rfl h2
      · rw [eb, ha] at e
        cases e
        exact absurd rfl (h1 _ _)
  have toBase : ∀ {b : Addr} {o : Obj}, s₁.heap.get? b = some o → topH K cs a vs ns b = none → (L2.hidT s₁.heap (topH K cs a vs ns)).get? b = some o := fun e n => L2.hidT_get e n
  have nsB : ∀ {b : Addr} {mm : Str → Option Value}, s₁.heap.Ns b mm → (L2.hidT s₁.heap (topH K cs a vs ns)).Ns b mm := fun {b mm} ⟨o, es, ep, e, d, r⟩ =>
    ⟨o, es, ep, toBase e (noT e (fun xs n z => by rw [d] at z; cases z) fun z => by rw [d] at z; cases z), d, r⟩
  have KB : K.In (L2.hidT s₁.heap (topH K cs a vs ns)) := fun b o e => toBase (KX b o e) (by
    cases q : topH K cs a vs ns b with
    | none => rfl
    | some u =>
      rcases trk b u q with ⟨m, _⟩ | ⟨eb, n, _⟩
      · obtain ⟨c, hc, e2⟩ := List.mem_map.mp m
        rw [← e2, nT c hc] at e
        cases e
      · rw [eb, n] at e
        cases e)
  have hok : HOk P w (topH K cs a vs ns) s₁.heap := fun b u q => by
    rcases trk b u q with ⟨_, rfl, t⟩ | ⟨eb, _, _, rfl⟩
    · exact t
    · rw [eb]
      exact ⟨ha, by rw [List.length_map]; exact hl, vs, _, rv, ha⟩
  have tb : ∀ c ∈ cs, LamX.TabB (L2.hidT s₁.heap (topH K cs a vs ns)) mg c.code c.tab := fun c hc => by
    refine ⟨?_, ?_, fun z => ?_⟩
    · obtain ⟨o, us, file, tf, flags, tg, inF, text, tt, e1, r1, r2, r3, rest⟩ := hC c hc
      refine ⟨o, us, file, tf, flags, tg, inF, text, tt, toBase e1 (noT e1 (fun xs n z => by rw [r2] at z; cases z) fun z => ?_), r1, r2, r3, rest⟩
      rw [r2] at z
      cases z
      exact absurd r3 (by simp)
    · obtain ⟨bm, ob, b1, b2, b3, b4, b5, b6⟩ := hbm
      refine ⟨bm, ob, b1, b2, fun q => ?_, fun q => ?_, toBase b3 (noT b3 (fun xs n z => by rw [b6] at z; cases z) fun z => by rw [b6] at z; cases z), b4, b5, b6⟩
      · obtain ⟨o, es, ep, e, hd, _⟩ := hns
        rw [q, e] at b3
        cases b3
        rw [hd] at b6
        cases b6
      · rw [q, hT c hc] at b3
        cases b3
        cases b6
    · obtain ⟨o, es, ep, e, hd, _⟩ := hns
      rw [z, hT c hc] at e
      cases e
      cases hd
  have e0 : Env0 P w K mg (L2.hidT s₁.heap (topH K cs a vs ns)) callerA [] s₁ (topH K cs a vs ns) :=
    ⟨rfl, ⟨KB, nsB hns, ⟨mb, nsB hb, hbb⟩, let ⟨mc, h1, h2⟩ := hlim; ⟨mc, nsB h1, h2⟩⟩, fun b o e => L2.of_hidT e, Nat.le_of_eq (L2.hidT_size _ _), trivial, fun b hx => absurd (show b ∈ ([] : List Addr) from hx) (by simp), hok, .of_eq hg⟩
  have scr : (∃ o, topH K cs a vs ns a = some (HO.frz o (HO.lst (ns.map V.int)))) ∨ SqL K H0 a (ns.map V.int) := by
    cases hk : K.lookup a with
    | none => exact .inl ⟨_, (if_neg aT).trans (if_pos ⟨rfl, hk⟩)⟩
    | some o =>
      have e := KX a o hk
      rw [ha] at e
      cases e
      exact .inr (.inr ⟨_, vs.toArray, _, hk, rfl, rfl, rfl, by rw [List.size_toArray, lenV]; exact hl, by simpa using rv⟩)
  refine codeAny_mono (F _ _ KB (nsB hns) ⟨e0, tabAt, tb, scr⟩) fun r s' h => ?_
  cases r with
  | error e =>
    obtain ⟨_, _, _, _, _, _, _, _, _, _, _, _, z⟩ := h
    exact z.elim
  | ok fl =>
    cases fl with
    | ret u =>
      obtain ⟨v, H', os, bare, un, hok', r', q⟩ := h
      obtain rfl : v = .bl true := q
      obtain rfl : u = Value.bool true := r'
      have old : ∀ b o, b ∉ cs.map (·.tab) → s₁.heap.get? b = some o → s'.heap.get? b = some o := fun b o nb e => by
        cases q : topH K cs a vs ns b with
        | none => exact un.keep b o e q (fun z => absurd (show b ∈ ([] : List Addr) from z) (by simp)) (by simp)
        | some u =>
          rcases trk b u q with ⟨m, _⟩ | ⟨eb, _, _, rfl⟩
          · exact absurd m nb
          · obtain ⟨e2, _⟩ := hok' b _ (un.frzs b _ _ q)
            rw [eb, ha] at e
            cases e
            exact e2
      have more : ∀ c ∈ cs, ∃ xs : Array Value, s'.heap.get? c.tab = some { cls := .none, data := .fields xs } := fun c hc => by
        obtain ⟨xs, z⟩ := un.tbls c.tab #[] (tabAt c hc)
        exact ⟨_, hok' c.tab _ z⟩
      refine ⟨rfl, ⟨fun b o e => ?_, fun b o e => ?_⟩, os, bare⟩
      · by_cases hm : b ∈ cs.map (·.tab)
        · obtain ⟨c, hc, ec⟩ := List.mem_map.mp hm
          subst ec
          obtain ⟨xs, hx⟩ := more c hc
          rw [hT c hc] at e
          cases e
          exact .inr (.inl ⟨((hC c hc).tab (hT c hc)).isCodeTable, rfl, #[], xs, rfl, by rw [Array.empty_append]; exact hx⟩)
        · exact .inl (old b o hm e)
      · by_cases hm : b ∈ cs.map (·.tab)
        · obtain ⟨c, hc, ec⟩ := List.mem_map.mp hm
          subst ec
          obtain ⟨xs, hx⟩ := more c hc
          exact ⟨_, hx⟩
        · exact ⟨o, old b o hm e⟩
    | _ => exact False.elim h
/-- a def's promise on the script -/
theorem fa_top {P : Program} {w : World} {K : PySem.W.Frag} {mg : Str → Option Value} {cs : List Lt} {a fa : Addr} {ns : List Int} {base : Heap} {s₁ : Shared} {H : Hp} {k : Nat} {F : List PV → Sto → Res PV} {S' : Sto} (t : TopOk P w K mg cs a ns base s₁ H) (hr : Room k callerA)
    (fa_ : FA ⟨P, w, K, mg, base, tabOf cs⟩ k fa F) (e : F [.fl (ns.map .int)] [] = .ok (.bl true) S') :
    codeAny (model P w) callerA (.call (.ref fa) ⟨[.ref a], []⟩) (CR (L2.CX P w) [] P w H s₁ (fun v _ => v = .bl true) fun _ _ _ => False) s₁ := by
  have lits : ∀ l : List Int, RepL (⟨K, mg, tabOf cs, none⟩ : Gm) ⟨[], []⟩ H (l.map PV.int) (l.map V.int) := fun l => by
    induction l with
    | nil => exact RepL.nil
    | cons i r ih => exact RepL.cons (mk_int i) ih
  refine fa_ callerA [] s₁ H [.ref a] [.ref a] [.fl (ns.map .int)] [] ⟨[], []⟩ _ _ hr rfl t.env (.cons rfl .nil) ⟨rfl, List.nodup_nil, fun b hb => absurd hb (by simp), fun n xs q => by simp at q, fun p hp => ?_⟩ (RepL.cons ?_ RepL.nil) ?_
  · obtain ⟨c, hc, rfl⟩ := List.mem_map.mp hp
    exact LamX.TabS.nil (t.tabs c hc)
  · unfold Rep
    exact ⟨a, ns.map V.int, rfl, t.scr, lits ns⟩
  · rw [e]
    exact fun m' H' v s h1 h2 => rep_bl h2
/-- THE END: what a law's head leaves, and the law's def as a function of the script -/
theorem walk_end {l : PySem.W.OpenLaw} {n k : Nat} {q : Program} {loose : List Str} {XP : (Str → Option Value) → Heap → Prop} {YP : World → Heap → Prop} {d : DefRec} {K : Params → PySem.W.Frag}
    (hn : l.most = some n) (hn2 : n ≤ sizeLine) (hdf : d.params.defaults = []) (hr : Room k callerA) (hY : ∀ (w : World) (h : Heap), YP w h → (K w.params).In h)
    (F : ∀ (w : World) (mg : Str → Option Value) (fa : Addr) (h : Heap), YP w h → XP mg h → (K w.params).In h → h.Ns mainGlobals mg → mg d.name = some (.ref fa) →
      ∃ (cs : List Lt) (Ff : List PV → Sto → Res PV), (∀ c ∈ cs, h.get? c.tab = some T0) ∧ (∀ c ∈ cs, (K w.params).lookup c.tab = none) ∧ (∀ c ∈ cs, PySem.W.CodeHd h c.code c.tab) ∧
        (∀ base : Heap, (K w.params).In base → base.Ns mainGlobals mg → (∀ c ∈ cs, LamX.TabB base mg c.code c.tab) → FA ⟨l.prog, w, K w.params, mg, base, tabOf cs⟩ k fa Ff) ∧
        ∀ ns : List Int, ns.length ≤ n → (∀ z ∈ ns, Builtin.Int.intBits z ≤ 1048576) → ∃ S', Ff [.fl (ns.map .int)] [] = .ok (.bl true) S') :
    PySem.W.WalkO q loose XP YP l.row.toRowW d [] (fun f vs => PySem.call f vs) := by
  refine Att.attach_callB hn hdf fun w s₀ s₁ mg mb fa o pm cd doc a vs ns G Y ho hd hcd hmg hobj hints hlen hbits hg => ?_
  obtain ⟨cs, Ff, h1, h2, h3, h4, h5⟩ := F w mg fa _ Y G.X (hY w _ Y) G.T.g hmg
  obtain ⟨S', e⟩ := h5 ns hlen hbits
  exact run_top (hY w _ Y) G.T.g G.T.b G.T.builtins G.T.nolimit hg h1 h2 h3 G.T.bmain hobj hints (Nat.le_trans hlen hn2) fun base H kb nb t => fa_top t hr (h4 base kb nb t.tabB) e
end Mi
end
section
set_option Elab.async false
set_option linter.all false
set_option maxRecDepth 100000
set_option maxHeartbeats 2000000
namespace Mi
open PySem PySem.Spec PyProof.Rows L2

/-! ### what is said of a program -/
/-- built-in names that the module leaves as they are -/
def biNames : List Str := ["len", "isinstance", "abs", "int", "tuple", "list", "str", "bool", "all", "any", "zip", "range", "repr", "max", "min", "enumerate", "sorted", "sum", "ValueError", "dict", "set", "reversed"]
structure Bi (mg : Str → Option Value) : Prop where
  get : ∀ {x : Str}, x ∈ biNames → mg x = none
/-- a def of the module -/
structure DefOk (Z : Wd) (x : Str) (st : Stmt) : Prop where
  ex : ∃ f cdv, Z.mg x = some (.ref f) ∧ PySem.W.keepIn Z.K (.ref f) = true ∧ FunC Z.K x st f cdv
/-- .. whose code object stands at c -/
structure DefOkC (Z : Wd) (x : Str) (st : Stmt) (c : Addr) : Prop where
  ex : ∃ f, Z.mg x = some (.ref f) ∧ PySem.W.keepIn Z.K (.ref f) = true ∧ FunC Z.K x st f (.ref c)
theorem DefOk.fc {Z : Wd} {k : Nat} {x : Str} {st : Stmt} {N ps : List Str} {d : EnP → Sto → SR} (D : DefOk Z x st) (Sc : FnScope N ps (defScope st)) (hb : BindC x st ps)
    (body : ∀ (f : Addr) (cdv : Value) (A : Around) (outer : List Env) (s : Shared) (H : Hp) (E : XK), Ctx (Z.cx N x (defScope st) f cdv A outer s H E) k (fun c d _ H => E c d H) → CSs (Z.cx N x (defScope st) f cdv A outer s H E) Z.T (fun c d _ H => E c d H) (defBody st) d) :
    FC Z (k + 1) x (runF ps.length N.length d) := by
  obtain ⟨f, cdv, h1, h2, h3⟩ := D.ex
  exact ⟨f, h1, h2, fa_of h3 Sc hb fun A outer s H E hr hg => body f cdv A outer s H E (ctx_of hr hg)⟩
theorem DefOkC.fc {Z : Wd} {k : Nat} {x : Str} {st : Stmt} {c : Addr} {N ps : List Str} {d : EnP → Sto → SR} (D : DefOkC Z x st c) (Sc : FnScope N ps (defScope st)) (hb : BindC x st ps)
    (body : ∀ (f : Addr) (A : Around) (outer : List Env) (s : Shared) (H : Hp) (E : XK), Ctx (Z.cx N x (defScope st) f (.ref c) A outer s H E) k (fun c d _ H => E c d H) → CSs (Z.cx N x (defScope st) f (.ref c) A outer s H E) Z.T (fun c d _ H => E c d H) (defBody st) d) :
    FC Z (k + 1) x (runF ps.length N.length d) := by
  obtain ⟨f, h1, h2, h3⟩ := D.ex
  exact ⟨f, h1, h2, fa_of h3 Sc hb fun A outer s H E hr hg => body f A outer s H E (ctx_of hr hg)⟩
def lamF (len : Nat) (d : (Sto → Res PV) → EnP → Sto → SR) : (Sto → Res PV) → Sto → Res PV := fun C S => cleanR (runF 1 len (d C) [.lam] S)
theorem DefOk.fl {Z : Wd} {k : Nat} {x a : Str} {st : Stmt} {N : List Str} {d : (Sto → Res PV) → EnP → Sto → SR} (D : DefOk Z x st) (Sc : FnScope N [a] (defScope st)) (hb : BindC x st [a]) (hN0 : N[0]? = some a) (hv : Vis (defScope st) a)
    (body : ∀ (i : LmI) (C : Sto → Res PV) (f : Addr) (cdv : Value) (A : Around) (outer : List Env) (s : Shared) (H : Hp) (E : XK), Ctx (Z.cx N x (defScope st) f cdv A outer s H E) k (fun c d _ H => E c d H) →
      (∀ (pn : List (Addr × Obj)) (xe : Value → Shared → Prop) (W : WX) (p1 p2 : Pos), Takes ((Z.cx N x (defScope st) f cdv A outer s H E).tr pn xe) W → CE ((Z.cx N x (defScope st) f cdv A outer s H E).tr pn xe) (wT Z.T i) W (.Call (.Name a p1) [] [] p2) (dAct 0 C)) →
      CSs (Z.cx N x (defScope st) f cdv A outer s H E) (wT Z.T i) (fun c d _ H => E c d H) (defBody st) (d C)) (hd1 : (a == ("__debug__" : Str)) = false := by decide) (hd2 : (a == ("__classdict__" : Str)) = false := by decide) : FL Z k x (lamF N.length d) := by
  obtain ⟨f, cdv, h1, h2, h3⟩ := D.ex
  exact ⟨f, st, cdv, N, a, d, h1, h2, h3, Sc, hb, hN0, hv, hd1, hd2, fun _ _ => rfl, fun i C A outer s H E hr hg act => body i C f cdv A outer s H E (ctx_of hr hg) act⟩
section
variable {X : Cx} {T : Tb} {W : WX} {k : Nat}
theorem Ctx.u (C : Ctx X k W) : X.A.units + 100 < cLine := by have := C.room.un; omega
theorem u64 (h : X.A.units + 100 < cLine) : X.A.units + 64 < cLine := by omega
theorem u65 (h : X.A.units + 100 < cLine) : X.A.units + 65 < cLine := by omega
theorem u80 (h : X.A.units + 100 < cLine) : X.A.units + 80 < cLine := by omega
theorem ctx_lam {A : Around} {outer : List Env} {s : Shared} {H : Hp} {E : XK} {scope : Scope} {f c' : Addr} (hr : Room k (A.deeper (LamX.lamEnv X scope s.heap.objs.size f c'))) (hg : A.guards = some []) : Ctx (LamX.lamCx X A outer s H E scope f c') k (fun c d _ H => E c d H) :=
  ⟨hr, hg, rfl, takes_of rfl rfl rfl rfl, passes_of rfl⟩
theorem ce_gi {x : Str} {i : Int} {pos : Pos} (hm : ∃ t, X.mg x = some (.int i t)) (hg : Gl X x) (hd : (x == ("__debug__" : Str)) = false := by decide) : CE X T W (.Name x pos) (dC (.int i)) := by
  obtain ⟨t, hm⟩ := hm
  exact ce_gint hg hm hd
theorem ce_gf {x : Str} {F : List PV → Sto → Res PV} {j : Nat} {pos : Pos} (c : FC (wdOf X T) j x F) (hg : Gl X x) (hd : (x == ("__debug__" : Str)) = false := by decide) : CE X T W (.Name x pos) (dC (.glb x)) := by
  obtain ⟨f, hm, _⟩ := c.ex
  exact ce_gfn hg hm hd
theorem ce_ge {x : Str} {pos : Pos} (c : EC X.K X.mg x) (hg : Gl X x) (hd : (x == ("__debug__" : Str)) = false := by decide) : CE X T W (.Name x pos) (dC (.glb x)) := by
  obtain ⟨f, hm, _⟩ := c.ex
  exact ce_gfn hg hm hd
abbrev sLe (a b : List Nat) : Bool := !decide (b < a)
abbrev sLt (a b : List Nat) : Bool := decide (a < b)
theorem sn_cmpS (f : List Nat → List Nat → Bool) : Snd (gm X T) (fun x y H Q => ∃ i j, x = .str i ∧ y = .str j ∧ Q (.bl (f i.cps.toList j.cps.toList)) H) (fCmpS f) := by
  intro W σ m S H x y v u Q hS rx ry p
  unfold fCmpS at p
  split at p
  · cases rep_str rx
    cases rep_str ry
    exact ⟨_, _, rfl, rfl, p.here hS (mk_bl _)⟩
  · exact p.elim
end
/-! the built-in names, one by one -/
section
variable {mg : Str → Option Value}
theorem Bi.b_len (B : Bi mg) : mg "len" = none := B.get (by decide)
theorem Bi.b_isinstance (B : Bi mg) : mg "isinstance" = none := B.get (by decide)
theorem Bi.b_abs (B : Bi mg) : mg "abs" = none := B.get (by decide)
theorem Bi.b_int (B : Bi mg) : mg "int" = none := B.get (by decide)
theorem Bi.b_tuple (B : Bi mg) : mg "tuple" = none := B.get (by decide)
theorem Bi.b_list (B : Bi mg) : mg "list" = none := B.get (by decide)
theorem Bi.b_str (B : Bi mg) : mg "str" = none := B.get (by decide)
theorem Bi.b_bool (B : Bi mg) : mg "bool" = none := B.get (by decide)
theorem Bi.b_all (B : Bi mg) : mg "all" = none := B.get (by decide)
theorem Bi.b_any (B : Bi mg) : mg "any" = none := B.get (by decide)
theorem Bi.b_zip (B : Bi mg) : mg "zip" = none := B.get (by decide)
theorem Bi.b_range (B : Bi mg) : mg "range" = none := B.get (by decide)
theorem Bi.b_repr (B : Bi mg) : mg "repr" = none := B.get (by decide)
theorem Bi.b_max (B : Bi mg) : mg "max" = none := B.get (by decide)
theorem Bi.b_min (B : Bi mg) : mg "min" = none := B.get (by decide)
theorem Bi.b_enumerate (B : Bi mg) : mg "enumerate" = none := B.get (by decide)
theorem Bi.b_sorted (B : Bi mg) : mg "sorted" = none := B.get (by decide)
theorem Bi.b_sum (B : Bi mg) : mg "sum" = none := B.get (by decide)
theorem Bi.b_ValueError (B : Bi mg) : mg "ValueError" = none := B.get (by decide)
end
/-! ### isinstance(error, C) -/
def isF (fs : List (Str × PV)) (isT : PV → Option Bool) : PV → Option Bool := fun t => isT t
theorem ce_isE {X : Cx} {T : Tb} {W : WX} {a D : Addr} {d : Option Addr} {oe : Obj} {pn : List (Addr × Obj)} {isT : PV → Option Bool} {e : Expr} {es : List Expr} {dl : EnP → Sto → Res (List PV)} {p pos : Pos} (h : (ExcC X.K D ∧ IsT X.K X.mg D isT) ∨ ∀ t, isT t = none) (hz : Zc (.ref D) d oe) (hf : ∃ vs, oe.data = .fields vs)
    (hm : X.mg "isinstance" = none) (hg : Gl (X.suite a ((a, oe) :: pn)) "isinstance") (ha : CA (X.suite a ((a, oe) :: pn)) (T.err d) W (e :: es) dl)
    (he : starEach (e :: es) (X.suite a ((a, oe) :: pn)).env = (false, eval e (X.suite a ((a, oe) :: pn)).env) :: starEach es (X.suite a ((a, oe) :: pn)).env := by rfl) (hpl : (backTo pos (starEach es (X.suite a ((a, oe) :: pn)).env)).any (·.1) = false := by rfl) :
    CE (X.suite a ((a, oe) :: pn)) (T.err d) W (.Call (.Name "isinstance" p) (e :: es) [] pos) (dCB (fIsE isT) dl) := by
  rcases h with ⟨hx, ht⟩ | h
  · cases d with
    | none => exact ce_callB (call_isE hx hz hf) (sl_isE ht) hg hm PyProof.Rows.boot_isinstance ha (by decide) (by decide) he hpl
    | some dx => exact ce_callB (call_isEd hx hz hf) (sl_isEd (T := T.err (some dx)) rfl ht) hg hm PyProof.Rows.boot_isinstance ha (by decide) (by decide) he hpl
  · refine ce_callB (r := fun _ _ _ => False) (fun _ _ _ _ _ _ _ _ _ z => z.elim) (fun W σ m S H xs vs Q hS r p => ?_) hg hm PyProof.Rows.boot_isinstance ha (by decide) (by decide) he hpl
    unfold fIsE at p
    split at p
    · rw [h] at p
      exact p.elim
    · exact p.elim
/-- {} -/
def dDict0 : EnP → Sto → Res PV := fun _ S => .ok (.nd [] []) S
theorem ce_dict0 {X : Cx} {T : Tb} {W : WX} {pos : Pos} : CE X T W (.Dict [] [] pos) dDict0 :=
  pe_imp pe_dnewK fun σ H Q ⟨ρ, S, m, hE, hS, p⟩ => fun a ha => by
    refine p m _ _ (step_new ha) (hS.new ha) ?_
    show Rep _ _ _ (.nd [] []) _
    unfold Rep
    exact ⟨a, [], rfl, hS.fresh ha, upd_same, rfl, RepL.nil⟩
/-! ### comprehensions, the block's place handed on -/
abbrev InBlkC (X : Cx) (k : Nat) (scope : Scope) (P : Cx → Prop) : Prop := ∀ (s : Shared) (H : Hp) (C : Addr) (cl : List (Str × Addr)) (fp : List Addr), Ctx (X.blk s H scope (compEnvC scope cl C X.env) fp) k W0 → P (X.blk s H scope (compEnvC scope cl C X.env) fp)
section
variable {X : Cx} {T : Tb} {W : WX} {k : Nat} {elt tg iter : Expr} {ifs : List Expr} {scope : Scope} {own : List (Str × Nat)} {pos spos : Pos} {g : TG} {di : EnP → Sto → Res (List PV)} {f : PV → EnP → Option EnP} {dt : EnP → Sto → Res Bool} {de : EnP → Sto → Res PV}
theorem ce_lcC (mt : Bool) (hb : mt = true → Bare (gm X T)) (C : Ctx X k W) (hN : X.N.Nodup) (hi : CI X T W tg iter di) (ok : BlkOk X.N X.env.scope scope own) (hg : InBlkC X k scope fun Y => PG Y tg g) (hf : TgC (gm X T) (own.map (·.2)) g f)
    (ht : InBlkC X k scope fun Y => PTs Y ifs (tb (gm X T) W0 dt)) (he : InBlkC X k scope fun Y => Mi.CE Y T W0 elt de) (hs : ∀ x, foldedSetIterable iter X.env x = pure x := by intro _; rfl) :
    Mi.CE X T W (.ListComp elt [⟨tg, iter, ifs, 0⟩] scope pos) (dLc mt di f dt de (own.map (·.2))) :=
  ce_lc mt hb C.calm hN hi ok (fun s H A cl fp => hg s H A cl fp C.blk) hf (fun s H A cl fp => ht s H A cl fp C.blk) (fun s H A cl fp => he s H A cl fp C.blk) hs
theorem cs_lcC (mt : Bool) (hb : mt = true → Bare (gm X T)) {i : Nat} {y : Str} {py : Pos} (C : Ctx X k W) (hN : X.N.Nodup) (hy : X.N[i]? = some y) (hyl : X.env.scope.names.lookup y = some .local)
    (hsw : swapsWith (.ListComp elt [⟨tg, iter, ifs, 0⟩] scope pos) (some (.Name y py)) spos.line X.env = pure true) (hi : CI X T W tg iter di) (ok : BlkOk X.N X.env.scope scope own) (hg : InBlkC X k scope fun Y => PG Y tg g) (hf : TgC (gm X T) (own.map (·.2)) g f)
    (ht : InBlkC X k scope fun Y => PTs Y ifs (tb (gm X T) W0 dt)) (he : InBlkC X k scope fun Y => Mi.CE Y T W0 elt de) (hs : ∀ x, foldedSetIterable iter X.env x = pure x := by intro _; rfl) :
    CS X T W (.Assign [.Name y py] (.ListComp elt [⟨tg, iter, ifs, 0⟩] scope pos) spos) (dSet i (dLc mt di f dt de (own.map (·.2)))) :=
  cs_lc mt hb C.calm hN hy hyl hsw hi ok (fun s H A cl fp => hg s H A cl fp C.blk) hf (fun s H A cl fp => ht s H A cl fp C.blk) (fun s H A cl fp => he s H A cl fp C.blk) hs
end
theorem FC.mono {Z : Wd} {j k : Nat} {x : Str} {F : List PV → Sto → Res PV} (h : FC Z j x F) (hjk : j ≤ k) : FC Z k x F := by
  obtain ⟨f, h1, h2, h3⟩ := h.ex
  exact ⟨f, h1, h2, h3.mono hjk⟩
end Mi
end
section
set_option Elab.async false
set_option linter.all false
set_option maxRecDepth 100000
set_option maxHeartbeats 2000000
namespace Mi
open PySem PySem.Spec PyProof.Rows L2

/-! ### errors, by tables -/
def catN (names : List Str) (c : Str) : Option Bool := if c ∈ names then some true else none
def isTab (P : List (Str × Str × Bool)) (names : List Str) (c : Str) : PV → Option Bool
  | .glb x => (P.find? fun p => p.1 == c && p.2.1 == x).map fun p => p.2.2
  | .ty n => if n = "ValueError" ∧ c ∈ names then some true else none
  | _ => none
section
variable {K : PySem.W.Frag} {mg : Str → Option Value} {P : List (Str × Str × Bool)} {names : List Str}
/-- the classes of errors, with their addresses -/
structure ErrA (K : PySem.W.Frag) (mg : Str → Option Value) (l : List (Str × Addr)) : Prop where
  at_ : ∀ p ∈ l, mg p.1 = some (.ref p.2)
theorem cat_mk {l : List (Str × Addr)} {CR : Addr} (hl : names = l.map (·.1)) (A : ErrA K mg l) (h : ∀ p ∈ l, PySem.W.exmOne K (.ref p.2) (.ref CR) = some true) : ∀ c b, catN names c = some b → ∀ C, mg c = some (.ref C) → PySem.W.exmOne K (.ref C) (.ref CR) = some b := fun c b e C hc => by
  unfold catN at e
  split at e
  · rename_i hm
    cases e
    rw [hl] at hm
    obtain ⟨p, hp, rfl⟩ := List.mem_map.mp hm
    have q := A.at_ p hp
    rw [hc] at q
    cases q
    exact h p hp
  · cases e
theorem isE_mk {l : List (Str × Addr)} (hl : names = l.map (·.1)) (A : ErrA K mg l) (hP1 : ∀ p ∈ P, p.1 ∈ names) (hx : ∀ p ∈ l, ExcC K p.2)
    (hk : ∀ p ∈ P, ∀ C D, (p.1, C) ∈ l → (p.2.1, D) ∈ l → PySem.W.kitOne K (.ref C) (.ref D) = some p.2.2) (hP2 : ∀ p ∈ P, p.2.1 ∈ names) (hv : ∀ p ∈ l, PySem.W.kitOne K (.ref p.2) (.type "ValueError") = some true) :
    ∀ c C fs (d : Option Addr), mg c = some (.ref C) → (fs = [] → d = none) → (ExcC K C ∧ IsT K mg C (isF fs (isTab P names c))) ∨ ∀ t, isF fs (isTab P names c) t = none := by
  intro c C fs d hc hd
  have look : ∀ n, n ∈ names → ∀ A', mg n = some (.ref A') → (n, A') ∈ l := fun n hn A' hA => by
    rw [hl] at hn
    obtain ⟨p, hp, rfl⟩ := List.mem_map.mp hn
    have q := A.at_ p hp
    rw [hA] at q
    cases q
    exact hp
  by_cases hm : c ∈ names
  · refine .inl ⟨hx (c, C) (look c hm C hc), ⟨fun x b e D hD => ?_, fun n b e => ?_, fun t h1 h2 => ?_⟩⟩
    · have e : (P.find? fun p => p.1 == c && p.2.1 == x).map (fun p => p.2.2) = some b := e
      cases ef : P.find? fun p => p.1 == c && p.2.1 == x with
      | none => rw [ef] at e; cases e
      | some p =>
        rw [ef] at e
        cases e
        have hp := List.mem_of_find?_eq_some ef
        have h0 := List.find?_some ef
        simp only [Bool.and_eq_true, beq_iff_eq] at h0
        obtain ⟨h1, h2⟩ := h0
        subst h1 h2
        exact hk p hp C D (look _ hm C hc) (look _ (hP2 p hp) D hD)
    · have e : (if n = "ValueError" ∧ c ∈ names then some true else none) = some b := e
      split at e
      · rename_i h
        cases e
        rw [h.1]
        exact hv (c, C) (look c hm C hc)
      · cases e
    · cases t with
      | glb x => exact absurd rfl (h1 x)
      | ty n => exact absurd rfl (h2 n)
      | _ => rfl
  · refine .inr fun t => ?_
    cases t with
    | glb x =>
      show (P.find? fun p => p.1 == c && p.2.1 == x).map (fun p => p.2.2) = none
      have : (P.find? fun p => p.1 == c && p.2.1 == x) = none := List.find?_eq_none.mpr fun p hp q => by
        simp only [Bool.and_eq_true, beq_iff_eq] at q
        exact hm (q.1 ▸ hP1 p hp)
      rw [this]
      rfl
    | ty n =>
      show (if n = "ValueError" ∧ c ∈ names then some true else none) = none
      exact if_neg fun h => hm h.2
    | _ => rfl
end
/-! ### what the head's written part tells -/
section
variable {K : PySem.W.Frag} {mg : Str → Option Value} {h : Heap}
theorem bi_mk (X : K.In h) (G : h.Ns mainGlobals mg) (e : (biNames.all fun x => match PySem.W.nsIn K mainGlobals x with | some none => true | _ => false) = true) : Bi mg := ⟨fun {x} hx => by
  have q := List.all_eq_true.mp e x hx
  cases z : PySem.W.nsIn K mainGlobals x with
  | none => rw [z] at q; cases q
  | some v =>
    cases v with
    | none => exact PySem.W.mg_none_of X G z
    | some v => rw [z] at q; cases q⟩
theorem int_mk {x : Str} {i : Int} {t : Tok} (X : K.In h) (G : h.Ns mainGlobals mg) (e : PySem.W.nsIn K mainGlobals x = some (some (.int i t))) : ∃ t, mg x = some (.int i t) := ⟨t, PySem.W.mg_of X G e⟩
theorem loose_mk {p : Program} {x : Str} {i : Int} {lv : List (Str × PySem.W.WData)} (XX : PySem.W.XL p lv mg h) (hx : (x, PySem.W.WData.int i) ∈ lv) : ∃ t, mg x = some (.int i t) := by
  obtain ⟨v, e, r⟩ := XX.2.val _ hx
  cases r with
  | int => exact ⟨_, e⟩
theorem def_mk {P : Program} {w : World} {base : Heap} {T : Tb} {x : Str} {st : Stmt} {f : Addr} {oc : Value} {od an : Option Addr} {osl : Array (Option Value)} {kV doc pm cdv ct : Value} (X : K.In h) (G : h.Ns mainGlobals mg)
    (a : PySem.W.nsIn K mainGlobals x = some (some (.ref f))) (l : K.lookup f = some ⟨oc, od, .func (PySem.W.fnOf x x (defArgs st) (defBody st) (defScope st) .none kV doc pm an cdv ct), osl⟩) (c : PySem.W.codeIn K cdv x = true) (k : PySem.W.keepIn K (.ref f) = true) :
    DefOk ⟨P, w, K, mg, base, T⟩ x st := ⟨f, cdv, PySem.W.mg_of X G a, k, ⟨⟨oc, od, kV, doc, pm, an, ct, osl, l⟩, c⟩⟩
theorem defC_mk {P : Program} {w : World} {base : Heap} {T : Tb} {x : Str} {st : Stmt} {f cA : Addr} {oc : Value} {od an : Option Addr} {osl : Array (Option Value)} {kV doc pm ct : Value} (X : K.In h) (G : h.Ns mainGlobals mg)
    (a : PySem.W.nsIn K mainGlobals x = some (some (.ref f))) (l : K.lookup f = some ⟨oc, od, .func (PySem.W.fnOf x x (defArgs st) (defBody st) (defScope st) .none kV doc pm an (.ref cA) ct), osl⟩) (c : PySem.W.codeIn K (.ref cA) x = true) (k : PySem.W.keepIn K (.ref f) = true) :
    DefOkC ⟨P, w, K, mg, base, T⟩ x st cA := ⟨f, PySem.W.mg_of X G a, k, ⟨⟨oc, od, kV, doc, pm, an, ct, osl, l⟩, c⟩⟩
theorem ec_mk {x : Str} {C : Addr} (X : K.In h) (G : h.Ns mainGlobals mg) (a : PySem.W.nsIn K mainGlobals x = some (some (.ref C))) (k : PySem.W.keepIn K (.ref C) = true) (q : PySem.W.excIn K C veMro "ValueError.__new__" = true)
    (s : PySem.W.subIn K (.ref C) (.type "BaseException") = some true) (t : PySem.W.typeIn K (.ref C) = some (.type "type")) (e : ExcC K C) : EC K mg x := ⟨C, PySem.W.mg_of X G a, k, q, s, t, e⟩
end
/-! ### all of the errors at once -/
def excB (K : PySem.W.Frag) (C : Addr) : Bool :=
  decide (PySem.W.findIn K (.ref C) "__getattribute__" = some (some (.builtin "BaseException.__getattribute__"))) && decide (PySem.W.findIn K (.ref C) "__getattr__" = some none) && decide (PySem.W.subIn K (.ref C) (.type "BaseException") = some true) && PySem.W.hasDictIn K C &&
    decide (PySem.W.findIn K (.ref C) "__class__" = some (some (.builtin "object.__class__"))) && decide (PySem.W.specialIn K (.builtin "object.__class__") "__get__" = some (some (.builtin "getset_descriptor.__get__"))) && decide (PySem.W.takesIn K (.builtin "object.__class__") = some true) && decide (PySem.W.mroIn K C (.type "object") = some true)
theorem excB_mk {K : PySem.W.Frag} {C : Addr} (h : excB K C = true) : ExcC K C := by
  unfold excB at h
  simp only [Bool.and_eq_true, decide_eq_true_eq] at h
  obtain ⟨⟨⟨⟨⟨⟨⟨h1, h2⟩, h3⟩, h4⟩, h5⟩, h6⟩, h7⟩, h8⟩ := h
  exact ⟨h1, h2, h3, h4, h5, h6, h7, h8⟩
def errB (K : PySem.W.Frag) (l : List (Str × Addr)) (P : List (Str × Str × Bool)) (CR : Addr) (F : List Str) : Bool :=
  (l.all fun p => decide (PySem.W.nsIn K mainGlobals p.1 = some (some (.ref p.2))) && PySem.W.keepIn K (.ref p.2) && (decide (p.1 ∈ F) || PySem.W.excIn K p.2 veMro "ValueError.__new__") && decide (PySem.W.typeIn K (.ref p.2) = some (.type "type")) && excB K p.2 &&
      decide (PySem.W.exmOne K (.ref p.2) (.ref CR) = some true) && decide (PySem.W.kitOne K (.ref p.2) (.type "ValueError") = some true)) &&
    P.all fun p => l.all fun c => l.all fun d => !(c.1 == p.1 && d.1 == p.2.1) || decide (PySem.W.kitOne K (.ref c.2) (.ref d.2) = some p.2.2)
structure ErrAll (K : PySem.W.Frag) (mg : Str → Option Value) (l : List (Str × Addr)) (P : List (Str × Str × Bool)) (CR : Addr) (F : List Str) : Prop where
  ec : ∀ p ∈ l, p.1 ∉ F → EC K mg p.1
  at_ : ErrA K mg l
  cat : ∀ c b, catN (l.map (·.1)) c = some b → ∀ C, mg c = some (.ref C) → PySem.W.exmOne K (.ref C) (.ref CR) = some b
  isE : ∀ c C fs (d : Option Addr), mg c = some (.ref C) → (fs = [] → d = none) → (ExcC K C ∧ IsT K mg C (isF fs (isTab P (l.map (·.1)) c))) ∨ ∀ t, isF fs (isTab P (l.map (·.1)) c) t = none
theorem errs_mk {K : PySem.W.Frag} {mg : Str → Option Value} {h : Heap} {l : List (Str × Addr)} {P : List (Str × Str × Bool)} {CR : Addr} (F : List Str) (X : K.In h) (G : h.Ns mainGlobals mg) (e : errB K l P CR F = true) (hP : (P.all fun p => decide (p.1 ∈ l.map (·.1)) && decide (p.2.1 ∈ l.map (·.1))) = true) : ErrAll K mg l P CR F := by
  unfold errB at e
  simp only [Bool.and_eq_true, Bool.or_eq_true, List.all_eq_true, decide_eq_true_eq] at e hP
  obtain ⟨e1, e2⟩ := e
  have hA : ErrA K mg l := ⟨fun p hp => PySem.W.mg_of X G (e1 p hp).1.1.1.1.1.1⟩
  refine ⟨fun p hp hF => ?_, hA, cat_mk rfl hA fun p hp => (e1 p hp).1.2, isE_mk rfl hA (fun p hp => (hP p hp).1) (fun p hp => excB_mk (e1 p hp).1.1.2) (fun p hp C D hc hd => ?_) (fun p hp => (hP p hp).2) fun p hp => (e1 p hp).2⟩
  · obtain ⟨⟨⟨⟨⟨⟨h1, h2⟩, h3⟩, h4⟩, h5⟩, h6⟩, h7⟩ := e1 p hp
    exact ec_mk X G h1 h2 (h3.resolve_left hF) (excB_mk h5).hs h4 (excB_mk h5)
  · have q := e2 p hp (p.1, C) hc (p.2.1, D) hd
    simpa using q
end Mi
end
section
set_option Elab.async false
set_option linter.all false
set_option maxRecDepth 100000
set_option maxHeartbeats 2000000
namespace Mi
open PySem PySem.Spec PyProof.Rows L2

/-! ### comprehensions of two clauses -/
def lcP2 (f : PV → EnP → Option EnP) (dt : EnP → Sto → Res Bool) (di1 : EnP → Sto → Res (List PV)) (f1 : PV → EnP → Option EnP) (dt1 : EnP → Sto → Res Bool) (de : EnP → Sto → Res PV) (vs1 : List Nat) (ρ : EnP) : List PV → List PV → Sto → Res (List PV)
  | [], acc, S => .ok acc S
  | x :: xs, acc, S => match f x ρ with
    | none => .bad
    | some ρ1 => (match dt ρ1 S with
      | .ok true S1 => (match di1 ρ1 S1 with
        | .ok items1 S2 => (lcP f1 dt1 de (wipeP ρ1 vs1) items1 acc S2).bind fun acc' S3 => lcP2 f dt di1 f1 dt1 de vs1 ρ xs acc' S3
        | _ => .bad)
      | .ok false S1 => lcP2 f dt di1 f1 dt1 de vs1 ρ xs acc S1
      | _ => .bad)
def dLc2 (mt : Bool) (di : EnP → Sto → Res (List PV)) (f : PV → EnP → Option EnP) (dt : EnP → Sto → Res Bool) (di1 : EnP → Sto → Res (List PV)) (f1 : PV → EnP → Option EnP) (dt1 : EnP → Sto → Res Bool) (de : EnP → Sto → Res PV) (vs vs1 : List Nat) : EnP → Sto → Res PV := fun ρ S =>
  (di ρ S).bind fun items S1 => (lcP2 f dt di1 f1 dt1 de vs1 (wipeP ρ vs) items [] S1).bind fun acc S2 => mkLst mt acc S2
theorem lc2_sound {X : Cx} {T : Tb} {W : WX} {wi wi1 : TI} {g g1 : TG} {tt tt1 : TT} {te : TE} {vs vs1 : List Nat} {di di1 : EnP → Sto → Res (List PV)} {f f1 : PV → EnP → Option EnP} {dt dt1 : EnP → Sto → Res Bool} {de : EnP → Sto → Res PV} (mt : Bool) (hb : mt = true → Bare (gm X T))
    (hi : ∀ σ H R, tr (gm X T) W (fun m' H' items J => ItOk (gm X T) J items m' H') di σ H R → wi σ H R) (hg : TgC (gm X T) vs g f)
    (ht : ∀ σ H Q, tb (gm X T) W0 dt σ H Q → tt σ H Q) (hi1 : ∀ σ H R, tr (gm X T) W0 (fun m' H' items J => ItOk (gm X T) J items m' H') di1 σ H R → wi1 σ H R) (hg1 : TgC (gm X T) vs1 g1 f1)
    (ht1 : ∀ σ H Q, tb (gm X T) W0 dt1 σ H Q → tt1 σ H Q) (he : ∀ σ H Q, tv (gm X T) W0 de σ H Q → te σ H Q) {σ : L2.St} {H : Hp} {Q : VK} (h : tv (gm X T) W (dLc2 mt di f dt di1 f1 dt1 de vs vs1) σ H Q) : tLc2 wi g tt wi1 g1 tt1 te vs vs1 σ H Q := by
  obtain ⟨ρ, S, m, hE, hS, p⟩ := h
  refine hi _ _ _ (tr_bind (f := fun items ρ S1 => (lcP2 f dt di1 f1 dt1 de vs1 (wipeP ρ vs) items [] S1).bind fun acc S2 => mkLst mt acc S2) hE hS p fun items S1 m1 H1 J s1 hE1 hS1 hJ p1 D hD => ?_)
  have D1 : D ∉ m1.ex := (hS1.fresh hD).2
  refine ⟨fun i n H => ∃ S m acc avs, Step m1 H1 m H ∧ D ∈ m.ex ∧ H D = some (HO.lst avs) ∧ RepL (gm X T) m H acc avs ∧ RelS (gm X T) m S H ∧ RelE (gm X T) m H (wipeP ρ vs) (wipe σ vs) ∧ (n = items.length - i ∧ i ≤ items.length) ∧ PostV (gm X T) W σ m1 H1 Q ((lcP2 f dt di1 f1 dt1 de vs1 (wipeP ρ vs) (items.drop i) acc S).bind fun acc S2 => mkLst mt acc S2),
    ⟨_, S1, m1.open_ D, [], [], step_open hD, List.mem_cons_self, upd_same, RepL.nil, hS1.open_ hD, (hE1.wipe vs).step (step_open hD), ⟨rfl, Nat.zero_le _⟩, p1⟩, ?_⟩
  rintro i n H2 ⟨S2, m2, acc, avs, s2, hm2, hD2, ra, hS2, hE2, ⟨rfl, hle⟩, p2⟩
  by_cases hlt : i < items.length
  · right
    have ei : items[i]? = some items[i] := List.getElem?_eq_getElem hlt
    obtain ⟨hgo, hy⟩ := hJ.go m2 H2 S2 i items[i] s2.emb hS2 ei
    refine ⟨hgo, fun H => ∃ S m acc avs, Step m1 H1 m H ∧ D ∈ m.ex ∧ H D = some (HO.lst avs) ∧ RepL (gm X T) m H acc avs ∧ RelS (gm X T) m S H ∧ RelE (gm X T) m H (wipeP ρ vs) (wipe σ vs) ∧ PostV (gm X T) W σ m1 H1 Q ((lcP2 f dt di1 f1 dt1 de vs1 (wipeP ρ vs) (items.drop (i + 1)) acc S).bind fun acc S2 => mkLst mt acc S2),
      fun H' ⟨S', m', acc', avs', a, b, c, d, e, f1, k⟩ => ⟨items.length - (i + 1), by omega, S', m', acc', avs', a, b, c, d, e, f1, ⟨rfl, hlt⟩, k⟩, fun v H3 y => ?_⟩
    obtain ⟨s3, hS3, hr3⟩ := hy v H3 y
    rw [List.drop_eq_getElem_cons hlt] at p2
    unfold lcP2 at p2
    have D2 : D ∉ m2.ix := (hS2.exs D hm2).1
    have lstk : ∀ {m' H'}, Step m2 H2 m' H' → D ∈ m'.ex ∧ H' D = some (HO.lst avs) := fun s => ⟨s.exo D hm2, s.keep D _ D2 hD2 nt_lst⟩
    have hE3 := hE2.step s3
    cases ef : f items[i] (wipeP ρ vs) with
    | none => rw [ef] at p2; exact p2.elim
    | some ρ1 =>
      simp only [ef] at p2
      refine hg m2 H3 items[i] v (wipeP ρ vs) ρ1 (wipe σ vs) _ hr3 hE3 ef fun σ' w hE' => ⟨by rw [w, wipe_wipe], ?_⟩
      refine ht _ _ _ ⟨ρ1, S2, m2, hE', hS3, ?_⟩
      cases et : dt ρ1 S2 with
      | bad => simp only [et] at p2; exact p2.elim
      | exc c fs S3 => simp only [et] at p2; exact p2.elim
      | ok b S3 =>
        simp only [et] at p2
        intro m4 H4 b' s4 hS4 eb
        cases eb
        have s24 := s3.trans s4
        cases b with
        | false =>
          rw [if_neg Bool.false_ne_true]
          exact ⟨S3, m4, acc, avs, s2.trans s24, (lstk s24).1, (lstk s24).2, RepL.step s24 _ _ ra, hS4, hE2.step s24, p2⟩
        | true =>
          rw [if_pos rfl]
          refine hi1 _ _ _ ⟨ρ1, S3, m4, hE'.step s4, hS4, ?_⟩
          cases e1 : di1 ρ1 S3 with
          | bad => simp only [e1] at p2; exact p2.elim
          | exc c fs S5 => simp only [e1] at p2; exact p2.elim
          | ok items1 S5 =>
            simp only [e1] at p2
            intro m5 H5 J1 s5 hS5 hJ1
            have s25 := s24.trans s5
            have k5 := lstk s25
            have hE5 : RelE (gm X T) m5 H5 (wipeP ρ1 vs1) (wipe σ' vs1) := ((hE'.step s4).step s5).wipe vs1
            refine ⟨fun j k H => ∃ S m acc avs, Emb m5 H5 m H ∧ D ∈ m.ex ∧ H D = some (HO.lst avs) ∧ Step m1 H1 m H ∧ RepL (gm X T) m H acc avs ∧ RelS (gm X T) m S H ∧ RelE (gm X T) m H (wipeP ρ1 vs1) (wipe σ' vs1) ∧ RelE (gm X T) m H (wipeP ρ vs) (wipe σ vs) ∧ (k = items1.length - j ∧ j ≤ items1.length) ∧
                PostV (gm X T) W σ m1 H1 Q (((lcP f1 dt1 de (wipeP ρ1 vs1) (items1.drop j) acc S).bind fun acc' S3 => lcP2 f dt di1 f1 dt1 de vs1 (wipeP ρ vs) (items.drop (i + 1)) acc' S3).bind fun acc S2 => mkLst mt acc S2),
              ⟨_, S5, m5, acc, avs, (Step.refl _ _).emb, k5.1, k5.2, s2.trans s25, RepL.step s25 _ _ ra, hS5, hE5, hE2.step s25, ⟨rfl, Nat.zero_le _⟩, p2⟩, ?_⟩
            rintro j k H6 ⟨S6, m6, acc6, avs6, s6, hm6, hD6, s16, ra6, hS6, hE6, hE6', ⟨rfl, hle6⟩, p6⟩
            by_cases hlt6 : j < items1.length
            · right
              have ej : items1[j]? = some items1[j] := List.getElem?_eq_getElem hlt6
              obtain ⟨hgo1, hy1⟩ := hJ1.go m6 H6 S6 j items1[j] s6 hS6 ej
              refine ⟨hgo1, fun H => ∃ S m acc avs, Emb m5 H5 m H ∧ D ∈ m.ex ∧ H D = some (HO.lst avs) ∧ Step m1 H1 m H ∧ RepL (gm X T) m H acc avs ∧ RelS (gm X T) m S H ∧ RelE (gm X T) m H (wipeP ρ1 vs1) (wipe σ' vs1) ∧ RelE (gm X T) m H (wipeP ρ vs) (wipe σ vs) ∧
                  PostV (gm X T) W σ m1 H1 Q (((lcP f1 dt1 de (wipeP ρ1 vs1) (items1.drop (j + 1)) acc S).bind fun acc' S3 => lcP2 f dt di1 f1 dt1 de vs1 (wipeP ρ vs) (items.drop (i + 1)) acc' S3).bind fun acc S2 => mkLst mt acc S2),
                fun H' ⟨S', m', acc', avs', a, b, c, d, e, f1', f2, f3, k⟩ => ⟨items1.length - (j + 1), by omega, S', m', acc', avs', a, b, c, d, e, f1', f2, f3, ⟨rfl, hlt6⟩, k⟩, fun v H7 y => ?_⟩
              obtain ⟨s7, hS7, hr7⟩ := hy1 v H7 y
              rw [List.drop_eq_getElem_cons hlt6] at p6
              unfold lcP at p6
              have D6 : D ∉ m6.ix := (hS6.exs D hm6).1
              have lstk6 : ∀ {m' H'}, Step m6 H6 m' H' → D ∈ m'.ex ∧ H' D = some (HO.lst avs6) := fun s => ⟨s.exo D hm6, s.keep D _ D6 hD6 nt_lst⟩
              have hE7 := hE6.step s7
              cases ef1 : f1 items1[j] (wipeP ρ1 vs1) with
              | none => rw [ef1] at p6; exact p6.elim
              | some ρ2 =>
                simp only [ef1] at p6
                refine hg1 m6 H7 items1[j] v (wipeP ρ1 vs1) ρ2 (wipe σ' vs1) _ hr7 hE7 ef1 fun σ2 w2 hE2' => ⟨by rw [w2, wipe_wipe], ?_⟩
                refine ht1 _ _ _ ⟨ρ2, S6, m6, hE2', hS7, ?_⟩
                cases et1 : dt1 ρ2 S6 with
                | bad => simp only [et1] at p6; exact p6.elim
                | exc c fs S3 => simp only [et1] at p6; exact p6.elim
                | ok b S8 =>
                  simp only [et1] at p6
                  intro m8 H8 b' s8 hS8 eb
                  cases eb
                  have s68 := s7.trans s8
                  cases b with
                  | false =>
                    rw [if_neg Bool.false_ne_true]
                    exact ⟨S8, m8, acc6, avs6, s6.trans s68.emb, (lstk6 s68).1, (lstk6 s68).2, s16.trans s68, RepL.step s68 _ _ ra6, hS8, hE6.step s68, hE6'.step s68, p6⟩
                  | true =>
                    rw [if_pos rfl]
                    refine he _ _ _ ⟨ρ2, S8, m8, hE2'.step s8, hS8, ?_⟩
                    cases ee : de ρ2 S8 with
                    | bad => simp only [ee] at p6; exact p6.elim
                    | exc c fs S5 => simp only [ee] at p6; exact p6.elim
                    | ok y9 S9 =>
                      simp only [ee] at p6
                      by_cases hz : acc6.length < lim
                      · rw [if_pos hz] at p6
                        intro m9 H9 w9 s9 hS9 hr9
                        have s69 := s68.trans s9
                        have k9 := lstk6 s69
                        have D5 : H5 D = some (HO.lst avs) := k5.2
                        refine ⟨avs6, k9.2, by rw [sizeLine_eq, ← ra6.length]; exact hz, S9, m9, acc6 ++ [y9], avs6 ++ [w9], ?_, k9.1, upd_same, step_ex (s16.trans s69) hD k9.2, ?_, hS9.ex_ k9.1 k9.2, (hE6.step s69).emb (emb_ex k9.1 k9.2), (hE6'.step s69).emb (emb_ex k9.1 k9.2), p6⟩
                        · exact (s6.trans s69.emb).trans (emb_ex k9.1 k9.2)
                        · exact RepL.emb (emb_ex k9.1 k9.2) _ _ ((RepL.step s69 _ _ ra6).append (RepL.cons hr9 RepL.nil))
                      · rw [if_neg hz] at p6; exact p6.elim
            · left
              refine ⟨hJ1.stop m6 H6 S6 j s6 hS6 (by omega), ?_⟩
              rw [List.drop_eq_nil_of_le (by omega)] at p6
              exact ⟨S6, m6, acc6, avs6, s16, hm6, hD6, ra6, hS6, hE6', p6⟩
  · left
    refine ⟨hJ.stop m2 H2 S2 i s2.emb hS2 (by omega), ?_⟩
    rw [List.drop_eq_nil_of_le (by omega)] at p2
    have p3 : PostV (gm X T) W σ m1 H1 Q (mkLst mt acc S2) := p2
    unfold mkLst at p3
    split at p3
    · cases mt with
      | true =>
        refine p3 ((m2.shut D).push D) H2 (.ref D) (step_shutP s2 hD D1) (hS2.shutP (hb rfl) hm2 hD2 ra) ?_
        show Rep _ _ _ (.ref S2.length) _
        unfold Rep
        refine ⟨D, ?_, rfl⟩
        show (m2.ix ++ [D])[S2.length]? = some D
        rw [List.getElem?_append_right (by rw [hS2.len]; omega), hS2.len]
        simp
      | false =>
        refine p3 (m2.shut D) H2 (.ref D) (step_shut s2 D1) (hS2.shut hm2) ?_
        show Rep _ _ _ (.nl acc) _
        unfold Rep
        exact ⟨D, avs, rfl, ⟨(hS2.exs D hm2).1, fun q => (mem_shut.mp q).2 rfl⟩, hD2, RepL.emb (emb_shut hm2) _ _ ra⟩
    · exact p3.elim
section
variable {X : Cx} {T : Tb} {W : WX} {k : Nat} {elt tg iter tg1 iter1 : Expr} {ifs ifs1 : List Expr} {scope : Scope} {own : List (Str × Nat)} {vs1 : List Nat} {pos spos : Pos} {g g1 : TG} {di di1 : EnP → Sto → Res (List PV)} {f f1 : PV → EnP → Option EnP} {dt dt1 : EnP → Sto → Res Bool} {de : EnP → Sto → Res PV}
theorem ce_lc2C (mt : Bool) (hb : mt = true → Bare (gm X T)) (C : Ctx X k W) (hN : X.N.Nodup) (hi : CI X T W tg iter di) (ok : BlkOk X.N X.env.scope scope own) (hv : ∀ i ∈ vs1, i ∈ own.map (·.2)) (hg : InBlkC X k scope fun Y => PG Y tg g) (hf : TgC (gm X T) (own.map (·.2)) g f)
    (ht : InBlkC X k scope fun Y => PTs Y ifs (tb (gm X T) W0 dt)) (hi1 : InBlkC X k scope fun Y => PI Y tg1 iter1 (tr (gm X T) W0 (fun m' H' items J => ItOk (gm X T) J items m' H') di1)) (hg1 : InBlkC X k scope fun Y => PG Y tg1 g1) (hf1 : TgC (gm X T) vs1 g1 f1) (ht1 : InBlkC X k scope fun Y => PTs Y ifs1 (tb (gm X T) W0 dt1))
    (he : InBlkC X k scope fun Y => Mi.CE Y T W0 elt de) (hs : ∀ x, foldedSetIterable iter X.env x = pure x := by intro _; rfl) (hs1 : ∀ env x, foldedSetIterable iter1 env x = pure x := by intro _ _; rfl) :
    Mi.CE X T W (.ListComp elt [⟨tg, iter, ifs, 0⟩, ⟨tg1, iter1, ifs1, 0⟩] scope pos) (dLc2 mt di f dt di1 f1 dt1 de (own.map (·.2)) vs1) :=
  pe_imp (pe_lc2 C.calm hN hi ok hv (fun s H A cl fp => hg s H A cl fp C.blk) (fun s H A cl fp => ht s H A cl fp C.blk) (fun s H A cl fp => hi1 s H A cl fp C.blk) (fun s H A cl fp => hg1 s H A cl fp C.blk) (fun s H A cl fp => ht1 s H A cl fp C.blk) (te := tv (gm X T) W0 de) (fun s H A cl fp => he s H A cl fp C.blk) hs hs1)
    fun σ H Q h => lc2_sound mt hb (fun _ _ _ q => q) hf (fun _ _ _ q => q) (fun _ _ _ q => q) hf1 (fun _ _ _ q => q) (fun _ _ _ q => q) h
theorem cs_lc2C (mt : Bool) (hb : mt = true → Bare (gm X T)) {i : Nat} {y : Str} {py : Pos} (C : Ctx X k W) (hN : X.N.Nodup) (hy : X.N[i]? = some y) (hyl : X.env.scope.names.lookup y = some .local)
    (hsw : swapsWith (.ListComp elt [⟨tg, iter, ifs, 0⟩, ⟨tg1, iter1, ifs1, 0⟩] scope pos) (some (.Name y py)) spos.line X.env = pure true) (hi : CI X T W tg iter di) (ok : BlkOk X.N X.env.scope scope own) (hv : ∀ i ∈ vs1, i ∈ own.map (·.2)) (hg : InBlkC X k scope fun Y => PG Y tg g) (hf : TgC (gm X T) (own.map (·.2)) g f)
    (ht : InBlkC X k scope fun Y => PTs Y ifs (tb (gm X T) W0 dt)) (hi1 : InBlkC X k scope fun Y => PI Y tg1 iter1 (tr (gm X T) W0 (fun m' H' items J => ItOk (gm X T) J items m' H') di1)) (hg1 : InBlkC X k scope fun Y => PG Y tg1 g1) (hf1 : TgC (gm X T) vs1 g1 f1) (ht1 : InBlkC X k scope fun Y => PTs Y ifs1 (tb (gm X T) W0 dt1))
    (he : InBlkC X k scope fun Y => Mi.CE Y T W0 elt de) (hs : ∀ x, foldedSetIterable iter X.env x = pure x := by intro _; rfl) (hs1 : ∀ env x, foldedSetIterable iter1 env x = pure x := by intro _ _; rfl) :
    CS X T W (.Assign [.Name y py] (.ListComp elt [⟨tg, iter, ifs, 0⟩, ⟨tg1, iter1, ifs1, 0⟩] scope pos) spos) (dSet i (dLc2 mt di f dt di1 f1 dt1 de (own.map (·.2)) vs1)) :=
  ps_imp (ps_setLc2 C.calm hN hy hyl hsw hi ok hv (fun s H A cl fp => hg s H A cl fp C.blk) (fun s H A cl fp => ht s H A cl fp C.blk) (fun s H A cl fp => hi1 s H A cl fp C.blk) (fun s H A cl fp => hg1 s H A cl fp C.blk) (fun s H A cl fp => ht1 s H A cl fp C.blk) (te := tv (gm X T) W0 de) (fun s H A cl fp => he s H A cl fp C.blk) hs hs1) fun D σ H ⟨ρ, S, m, hE, hS, p⟩ => by
    refine lc2_sound (W := W) mt hb (fun _ _ _ q => q) hf (fun _ _ _ q => q) (fun _ _ _ q => q) hf1 (fun _ _ _ q => q) (fun _ _ _ q => q) ?_
    exact ts_bind (d := dLc2 mt di f dt di1 f1 dt1 de (own.map (·.2)) vs1) (k := fun v S1 => .nx (ρ.set i (some v)) S1) hE hS p fun v S1 m1 H1 w s1 hE1 hS1 hr p1 => p1.nx_here hS1 (hE1.set i hr)
/-! ### names of the module that hold texts, tuples of constants -/
theorem ce_gS {x : Str} {i : Str} {pos : Pos} (hm : ∃ t, X.mg x = some (.str i t)) (hg : Gl X x) (hd : (x == ("__debug__" : Str)) = false := by decide) : CE X T W (.Name x pos) (dC (.str i)) := by
  obtain ⟨t, hm⟩ := hm
  exact ce_gstr hg hm hd
mutual
/-- the machine's value v of a written part stands for a constant tree -/
def Cst (K : PySem.W.Frag) : PV → Value → Prop
  | .non, v => v = .none
  | .bl b, v => v = .bool b
  | .int i, v => ∃ t, v = .int i t
  | .str s, v => ∃ t, v = .str s t
  | .ct xs, v => ∃ a o its n, v = .ref a ∧ K.lookup a = some o ∧ o.cls = .type "tuple" ∧ o.data = .seq its n ∧ its.size ≤ sizeLine ∧ CstL K xs its.toList
  | _, _ => False
def CstL (K : PySem.W.Frag) : List PV → List Value → Prop
  | [], vs => vs = []
  | x :: xs, vs => ∃ v ws, vs = v :: ws ∧ Cst K x v ∧ CstL K xs ws
end
mutual
theorem Cst.rep {g : Gm} : ∀ (x : PV) (v : Value), Cst g.K x v → ∃ u, RelV u v ∧ ∀ m H, Rep g m H x u
  | .non, v, h => by
    unfold Cst at h; subst h
    exact ⟨.non, rfl, fun _ _ => mk_non⟩
  | .bl b, v, h => by
    unfold Cst at h; subst h
    exact ⟨.bl b, rfl, fun _ _ => mk_bl b⟩
  | .int i, v, h => by
    unfold Cst at h
    obtain ⟨t, rfl⟩ := h
    exact ⟨.int i, ⟨t, rfl⟩, fun _ _ => mk_int i⟩
  | .str s, v, h => by
    unfold Cst at h
    obtain ⟨t, rfl⟩ := h
    exact ⟨.str s, ⟨t, rfl⟩, fun _ _ => mk_str s⟩
  | .ct xs, v, h => by
    unfold Cst at h
    obtain ⟨a, o, its, n, rfl, e1, e2, e3, e4, h⟩ := h
    obtain ⟨us, h1, h2⟩ := CstL.rep xs its.toList h
    exact ⟨.ref a, rfl, fun m H => by
      unfold Rep
      exact ⟨a, us, rfl, .inr ⟨o, its, n, e1, e2, e3, e4, h1⟩, h2 m H⟩⟩
  | .tup _, _, h => by unfold Cst at h; exact h.elim
  | .nl _, _, h => by unfold Cst at h; exact h.elim
  | .fl _, _, h => by unfold Cst at h; exact h.elim
  | .nd _ _, _, h => by unfold Cst at h; exact h.elim
  | .ref _, _, h => by unfold Cst at h; exact h.elim
  | .ty _, _, h => by unfold Cst at h; exact h.elim
  | .glb _, _, h => by unfold Cst at h; exact h.elim
  | .err, _, h => by unfold Cst at h; exact h.elim
  | .lam, _, h => by unfold Cst at h; exact h.elim
theorem CstL.rep {g : Gm} : ∀ (xs : List PV) (vs : List Value), CstL g.K xs vs → ∃ us, Vals us vs ∧ ∀ m H, RepL g m H xs us
  | [], vs, h => by
    unfold CstL at h; subst h
    exact ⟨[], .nil, fun _ _ => RepL.nil⟩
  | x :: xs, vs, h => by
    unfold CstL at h
    obtain ⟨v, ws, rfl, h1, h2⟩ := h
    obtain ⟨u, r1, r2⟩ := Cst.rep x v h1
    obtain ⟨us, r3, r4⟩ := CstL.rep xs ws h2
    exact ⟨u :: us, .cons r1 r3, fun m H => RepL.cons (r2 m H) (r4 m H)⟩
end
theorem ce_gT {x : Str} {c : PV} {pos : Pos} (hm : ∃ v, X.mg x = some v ∧ Cst X.K c v) (hg : Gl X x) (hd : (x == ("__debug__" : Str)) = false := by decide) : CE X T W (.Name x pos) (dC c) := by
  obtain ⟨v, e, h⟩ := hm
  obtain ⟨u, r1, r2⟩ := Cst.rep (g := gm X T) c v h
  exact ce_c (v := u) (pe_glob hg e r1 hd) fun m H => r2 m H
end
/-- a constant tree, as the written part has it -/
def cstB (K : PySem.W.Frag) : Nat → PV → Value → Bool
  | 0, _, _ => false
  | n + 1, c, v => match c, v with
    | .non, .none => true
    | .bl a, .bool b => a == b
    | .int i, .int j _ => i == j
    | .str s, .str u _ => s == u
    | .ct xs, .ref a => (match K.lookup a with
      | some o => (match o.data with
        | .seq its _ => decide (o.cls = .type "tuple") && decide (its.size ≤ sizeLine) && decide (xs.length = its.toList.length) && (xs.zip its.toList).all fun p => cstB K n p.1 p.2
        | _ => false)
      | none => false)
    | _, _ => false
theorem cst_of {K : PySem.W.Frag} : ∀ (n : Nat) (c : PV) (v : Value), cstB K n c v = true → Cst K c v
  | 0, _, _, h => by cases h
  | n + 1, c, v, h => by
    unfold cstB at h
    split at h
    · unfold Cst; rfl
    · unfold Cst; rw [eq_of_beq h]
    · unfold Cst; exact ⟨_, by rw [eq_of_beq h]⟩
    · unfold Cst; exact ⟨_, by rw [eq_of_beq h]⟩
    · rename_i xs a
      split at h
      · rename_i o e1
        split at h
        · rename_i its k e2
          simp only [Bool.and_eq_true, decide_eq_true_eq] at h
          obtain ⟨⟨⟨h1, h2⟩, h3⟩, h4⟩ := h
          unfold Cst
          refine ⟨a, o, its, k, rfl, e1, h1, e2, h2, ?_⟩
          generalize its.toList = vs at h3 h4
          clear e2 h2 e1 h1
          induction xs generalizing vs with
          | nil =>
            cases vs with
            | nil => unfold CstL; rfl
            | cons => cases h3
          | cons x xs ih =>
            cases vs with
            | nil => cases h3
            | cons u vs =>
              simp only [List.zip_cons_cons, List.all_cons, Bool.and_eq_true] at h4
              unfold CstL
              exact ⟨u, vs, rfl, cst_of n x u h4.1, ih vs (by simpa using h3) h4.2⟩
        · cases h
      · cases h
    · cases h
end Mi
end
section
set_option Elab.async false
set_option linter.all false
set_option maxRecDepth 100000
set_option maxHeartbeats 2000000
namespace Mi
open PySem PySem.Spec PyProof.Rows L2

def fAddI : PV → PV → Sto → Res PV
  | .int i, .int j, S => .ok (.int (i + j)) S
  | _, _, _ => .bad
theorem sn_addI {X : Cx} {T : Tb} : Snd (gm X T) (rI0 fun i j => .int (i + j)) fAddI := by
  intro W σ m S H x y v u Q hS rx ry p
  unfold fAddI at p
  split at p
  · rename_i i j
    exact ⟨i, j, rep_int rx, rep_int ry, p.here hS (mk_int _)⟩
  · exact p.elim
section
variable {K : PySem.W.Frag} {mg : Str → Option Value} {h : Heap}
theorem str_mk {x : Str} {i : Str} {t : Tok} (X : K.In h) (G : h.Ns mainGlobals mg) (e : PySem.W.nsIn K mainGlobals x = some (some (.str i t))) : ∃ t, mg x = some (.str i t) := ⟨t, PySem.W.mg_of X G e⟩
theorem cst_mk {x : Str} {c : PV} {v : Value} (X : K.In h) (G : h.Ns mainGlobals mg) (e : PySem.W.nsIn K mainGlobals x = some (some v)) (q : cstB K 9 c v = true) : ∃ v, mg x = some v ∧ Cst K c v := ⟨v, PySem.W.mg_of X G e, cst_of _ _ _ q⟩
end
end Mi
end
section
set_option Elab.async false
set_option linter.all false
set_option maxRecDepth 100000
set_option maxHeartbeats 2000000
namespace Mi
open PySem PySem.Spec PyProof.Rows L2

/-! ### a lambda with one parameter that has an int for its default, handed to a def that calls it without arguments -/
/-- its names: captured ones, globals, and parameters that the maker has no name like -/
structure LamD (sc scope : Scope) (N : List Str) : Prop where
  kind : scope.kind = .function
  co : scope.isCoroutine = false
  gen : scope.isGenerator = false
  own : ∀ y ∈ scope.names, y.2 ≠ .cell ∧ (y.2 = .local → y.1 ∉ N)
  free : ∀ y ∈ scope.names, y.2 = .free → sc.names.lookup y.1 = some .cell ∨ sc.names.lookup y.1 = some .free
theorem LamD.has {X : Cx} {scope : Scope} (L : LamD X.env.scope scope X.N) (ok : X.Ok) : ∀ y ∈ scope.names, y.2 = .free → ∃ c, X.env.cells.lookup y.1 = some c := fun y hy e => (L.free y hy e).elim (fun k => ok.has _ (.inl k)) (fun k => ok.has _ (.inr k))
section
variable {X : Cx} {T : Tb} {pins : List (Addr × Obj)} {σ : L2.St} {H HZ : Hp} {s s1 : Shared}
theorem start_d {A : Around} {outer : List Env} {E : XK} {scope : Scope} {f c' : Addr} {h₁ : Heap} {tk : Nat} {mm : Str → Option Value} (I : Inv X pins σ H s) (L : LamD X.env.scope scope X.N) (e0 : Env0 X.prog X.w X.K X.mg X.base A outer s1 HZ) (hd : A.handled = none)
    (un : Un (frs X.stack) [] H HZ s.heap s1.heap) (hns : h₁.Ns s1.heap.objs.size mm) (kp : ∀ b o, s1.heap.get? b = some o → h₁.get? b = some o) :
    Inv (LamX.lamCx X A outer s1 HZ E scope f c') [] σ HZ { s1 with heap := h₁, toks := tk } := by
  have hfree := L.has I.ok
  have up : ∀ {y c}, (cloFrom X.env.cells scope.names []).lookup y = some c → X.env.cells.lookup y = some c := fun {y c} e => by
    rcases cloFrom_mem (PySem.mem_of_lookup e) with z | ⟨z1, z2⟩
    · cases z
    · obtain ⟨d, hd⟩ := hfree _ z1 rfl
      have hd : X.env.cells.lookup y = some d := hd
      have z2 : c = d := by rw [z2, hd] <;> rfl
      rw [z2]
      exact hd
  have down : ∀ {y}, scope.names.lookup y = some .free → ∃ c, (cloFrom X.env.cells scope.names []).lookup y = some c := fun {y} e =>
    mem_lookup (cloFrom_has (cells := X.env.cells) (acc := []) (show (y, NameKind.free) ∈ scope.names from PySem.mem_of_lookup e))
  have cellK : ∀ {c : Addr} {v : Option Value}, H c = none → s.heap.IsCell c v → h₁.IsCell c v := fun {c v} n ⟨o, ho, hd⟩ => by
    obtain ⟨sl, q⟩ := un.any ho n (by simp)
    exact ⟨_, kp _ _ q, hd⟩
  have noA : ∀ b : Addr, b ∉ (LamX.lamCx X A outer s1 HZ E scope f c').ex := fun b z => absurd (show b ∈ ([] : List Addr) from z) (by simp)
  refine ⟨⟨e0.mod, L.kind, rfl, rfl, Nat.le_refl _, fun y z c e1 e2 => I.ok.inj y z c (up e1) (up e2), fun y hy => ?_, fun y c z _ => ?_, fun _ => hd, Around.frames_deeper e0.frames, .inr ⟨rfl, rfl⟩, fun b z => absurd z (noA b), e0.bs, e0.bsz, fun b _ _ => noA b,
      fun b z => absurd z (noA b), e0.funs, e0.frf⟩,
    rfl, e0.bare, Un.kept kp, ⟨_, hns, fun i y v e1 e2 e3 => ?_⟩, fun y c e => ?_, e0.hok.fresh (Nat.le_refl _), fun y c e => ?_, fun q hq => absurd (show q ∈ ([] : List (Addr × Obj)) ++ [] from hq) (by simp), e0.hok.kept kp, I.len⟩
  · have hy : scope.names.lookup y = some .cell ∨ scope.names.lookup y = some .free := hy
    rcases hy with hy | hy
    · exact absurd rfl (L.own _ (PySem.mem_of_lookup hy)).1
    · exact down hy
  · have z : false = true := z
    cases z
  · have e3 : Vis scope y := e3
    have inN : y ∈ X.N := List.mem_of_getElem? e1
    rcases e3 with k | k | k
    · exact absurd inN ((L.own _ (PySem.mem_of_lookup k)).2 rfl)
    · exact absurd rfl (L.own _ (PySem.mem_of_lookup k)).1
    · obtain ⟨m, hn, hl⟩ := I.loc
      have fr := L.free _ (PySem.mem_of_lookup k) rfl
      have hvis : Vis X.env.scope y := fr.elim (fun k => .inr (.inl k)) (fun k => .inr (.inr k))
      obtain ⟨w', r, q⟩ := hl i y v e1 e2 hvis
      obtain ⟨c2, h2⟩ := down k
      refine ⟨w', r, .inr ⟨.inr k, c2, h2, ?_⟩⟩
      have c1 := up h2
      rcases q with ⟨k', _⟩ | ⟨_, c3, e', z⟩
      · have k' : X.env.scope.names.lookup y = some .local := k'
        rcases fr with k2 | k2 <;> rw [show X.env.scope.names.lookup y = _ from k2] at k' <;> cases k'
      · rw [c1] at e'
        cases e'
        exact cellK (I.freeC y _ c1) z
  · obtain ⟨w', z⟩ := I.cell y c (up e)
    exact ⟨w', cellK (I.freeC y c (up e)) z⟩
  · obtain ⟨v, o, ho, hd⟩ := I.cell y c (up e)
    exact un.free c o ho (I.freeC y c (up e)) (by simp)
abbrev qlam (X : Cx) : Str := X.env.qual ++ "<lambda>"
abbrev objD (X : Cx) (params : Arguments) (body : Expr) (scope : Scope) (t : Addr) (doc pm : Value) (c' : Addr) (ctv : Value) : Obj := PySem.W.kdv_obj "<lambda>" (qlam X) params (.expr body) scope (cloFrom X.env.cells scope.names []) (.ref t) doc pm c' ctv
/-- what is known of the made one: the function, its defaults -/
structure MadeD (X : Cx) (s : Shared) (H : Hp) (f t c' : Addr) (params : Arguments) (body : Expr) (scope : Scope) (i : Int) (doc pm ctv : Value) : Prop where
  o : s.heap.get? f = some (objD X params body scope t doc pm c' ctv)
  fn : H f = none
  fr : f ∉ frs X.stack
  d : ∃ k, s.heap.get? t = some (PySem.W.kdv_tup [.int i k])
  tn : H t = none
  tr : t ∉ frs X.stack
theorem make_d {Ts : List (Addr × Str)} {c P : Addr} {params : Arguments} {body : Expr} {scope : Scope} {pos dp : Pos} {i : Int} {kk : Nat} {E : Value → Shared → Prop} {Q : Value → Shared → Prop} (I : Inv X pins σ H s) (TB : LamX.TabB X.base X.mg c P) (hcode : X.env.code = .ref c)
    (hm : (P, qlam X) ∈ Ts) (hu : ∀ p ∈ Ts, p.1 = P → p.2 = qlam X) (hT : LamX.Tabs Ts H) (hd0 : params.defaults = [.Constant (.int i) kk dp]) (hk0 : params.kw_defaults = []) (hfree : ∀ y ∈ scope.names, y.2 = .free → ∃ c, X.env.cells.lookup y.1 = some c)
    (h : ∀ (f t c' : Addr) (doc pm ctv : Value) (H1 : Hp) (s' : Shared), Inv X pins σ H1 s' → LamX.ExtN H H1 → LamX.Tabs Ts H1 → MadeD X s' H1 f t c' params body scope i doc pm ctv → H1 c' = some (LamX.CodeO c' (qlam X)) → Q (.ref f) s') :
    wpAny (model X.prog X.w) X.A (eval (.Lambda params body scope pos) X.env) Q E s := by
  refine PySem.W.kdv_lam (by rw [hd0]; rfl) hk0 ?_
  rw [hd0]
  refine PySem.W.kdv_all1 (wpAny_Constant_int (PySem.W.kdv_all0 ?_))
  rw [makeFunction_eq]
  simp only [List.zip_nil_right, List.filterMap_nil, List.isEmpty_nil, if_true, pure_bind, List.isEmpty_cons, Bool.false_eq_true, if_false]
  refine wpAny_bind (wpAny_newTextTuple ?_)
  have nofr : ∀ f, s.heap.objs.size ≤ f → f ∉ frs X.stack := fun f hf z => by
    rcases List.mem_cons.mp (I.stkSub _ z) with e | e
    · have h1 := I.lt
      rw [← e] at h1
      exact Nat.lt_irrefl _ (Nat.lt_of_lt_of_le h1 hf)
    · exact I.nofs hf e
  -- the tuple of the defaults
  generalize es0 : ({ s with heap := s.heap.push { cls := .type "tuple", data := .seq [Value.int i s.toks].toArray }, toks := s.toks + 1 } : Shared) = s0
  have I0 : Inv X pins σ H s0 := by rw [← es0]; exact I.kept fun b o e => Heap.get?_push_of_some _ e
  have hs0 : s0.heap = s.heap.push { cls := .type "tuple", data := .seq [Value.int i s.toks].toArray } := by rw [← es0]
  have sz0 : s.heap.objs.size < s0.heap.objs.size := by rw [hs0, Heap.size_push]; omega
  have tN : H s.heap.objs.size = none := I.hok.fresh (Nat.le_refl _)
  have tG : s0.heap.get? s.heap.objs.size = some (PySem.W.kdv_tup [.int i s.toks]) := by rw [hs0]; exact Heap.get?_push_size _ rfl
  obtain ⟨ps, hP, ht, ha⟩ := hT _ hm
  have bP : s0.heap.BuiltinsAt X.mg P := TB.bm.keeps I0.bk
  have hP' : s0.heap.get? P = some { cls := .none, data := .fields ps } := I0.hok P _ hP
  have tP : s.heap.objs.size ≠ P := fun z => by
    rw [z] at tN
    rw [tN] at hP
    cases hP
  cases hc : codeAmong pos ps.toList with
  | none =>
    refine PySem.W.kdv_makeTail (mg := X.mg) (c := c) (P := P) (ps := ps) (closure_ok hfree) I0.ok.glob (I0.mod.glob.keeps I0.bk) hcode (TB.code.keeps I0.bk) hP' ht hc TB.gP bP fun c' ctv doc h' tk hx hge hlt hrec htb => ?_
    obtain ⟨c2, oc, vs, t, e2, hoc, hd, hv⟩ := hrec
    cases e2
    have hsz : s0.heap.objs.size ≤ h'.objs.size := Nat.le_trans hge (Nat.le_of_lt hlt)
    have nC : H c' = none := I0.hok.fresh hge
    have I1 := LamX.inv_table (t' := tk) (more := #[rawInt pos.line, rawInt pos.col, .ref c']) (h' := h'.push (objD X params body scope s.heap.objs.size doc ((X.mg "__name__").getD .none) c' ctv)) I0 hP
      (fun b o hb e => Heap.get?_push_of_some _ (hx b o hb e)) (Heap.get?_push_of_some _ htb) hge ⟨oc, vs, t, Heap.get?_push_of_some _ hoc, hd, hv⟩
    have hE : LamX.ExtN H (upd (upd H P (.tbl (ps ++ #[rawInt pos.line, rawInt pos.col, .ref c']))) c' (LamX.CodeO c' (qlam X))) := fun b o e n => by
      rw [upd_ne (ne_of_none e nC), upd_ne (fun z => n ps (Option.some.inj (e.symm.trans (by rw [z]; exact hP))))]
      exact e
    have eL : (ps ++ #[rawInt pos.line, rawInt pos.col, .ref c']).toList = ps.toList ++ [rawInt pos.line, rawInt pos.col, .ref c'] := by simp
    refine h h'.objs.size s.heap.objs.size c' doc ((X.mg "__name__").getD .none) ctv _ _ I1 hE (fun p hp => ?_) ⟨Heap.get?_push_size _ rfl, ?_, nofr _ (Nat.le_trans (Nat.le_of_lt sz0) hsz), ⟨s.toks, Heap.get?_push_of_some _ (hx _ _ tP tG)⟩, ?_, nofr _ (Nat.le_refl _)⟩ upd_same
    · by_cases hb : p.1 = P
      · rw [hu p hp hb, hb]
        refine ⟨_, by rw [upd_ne (ne_of_none hP nC), upd_same], by rw [eL]; exact PySem.TriplesOk_snoc _ _ _ _ ht, fun p' cv hcv => ?_⟩
        rw [eL] at hcv
        rcases LamX.among_app _ ht hcv with z | z
        · obtain ⟨c0, e1, e2⟩ := ha p' cv z
          exact ⟨c0, e1, hE _ _ e2 LamX.codeO_ne⟩
        · exact ⟨c', z, upd_same⟩
      · obtain ⟨ps', a1, a2, a3⟩ := hT p hp
        refine ⟨ps', by rw [upd_ne (ne_of_none a1 nC), upd_ne hb]; exact a1, a2, fun p' cv hcv => ?_⟩
        obtain ⟨c0, e1, e2⟩ := a3 p' cv hcv
        exact ⟨c0, e1, hE _ _ e2 LamX.codeO_ne⟩
    · have n1 : h'.objs.size ≠ c' := Nat.ne_of_gt hlt
      have n2 : h'.objs.size ≠ P := Nat.ne_of_gt (Nat.lt_of_lt_of_le (Heap.lt_size hP') hsz)
      rw [upd_ne n1, upd_ne n2]
      exact I0.hok.fresh hsz
    · have n1 : s.heap.objs.size ≠ c' := Nat.ne_of_lt (Nat.lt_of_lt_of_le sz0 hge)
      rw [upd_ne n1, upd_ne tP]
      exact tN
  | some cv =>
    obtain ⟨c', e, hco⟩ := ha pos cv hc
    subst e
    refine PySem.W.kdv_makeTailHit (mg := X.mg) (c := c) (P := P) (ps := ps) (closure_ok hfree) I0.ok.glob (I0.mod.glob.keeps I0.bk) hcode (TB.code.keeps I0.bk) hP' ht hc bP fun ctv doc h' tk hx hsz => ?_
    have I1 : Inv X pins σ H { s0 with heap := h'.push (objD X params body scope s.heap.objs.size doc ((X.mg "__name__").getD .none) c' ctv), toks := tk } := I0.kept fun b o e => Heap.get?_push_of_some _ (hx b o e)
    exact h h'.objs.size s.heap.objs.size c' doc ((X.mg "__name__").getD .none) ctv H _ I1 (LamX.ExtN.refl H) hT ⟨Heap.get?_push_size _ rfl, I0.hok.fresh hsz, nofr _ (Nat.le_trans (Nat.le_of_lt sz0) hsz), ⟨s.toks, Heap.get?_push_of_some _ (hx _ _ tG)⟩, tN, nofr _ (Nat.le_refl _)⟩ hco
/-- x() in the def that got it -/
theorem act_d {Eg : XK} {Ng : List Str} {qg : Str} {sg : Scope} {g f t c' : Addr} {cdg doc pm ctv : Value} {params : Arguments} {body : Expr} {scope : Scope} {k i : Nat} {di : Int} {nm : Str} {a : Str} {pn : List (Addr × Obj)} {xe : Value → Shared → Prop} {W : WX} {p1 p2 : Pos} {ρ : EnP} {db : EnP → Sto → Res PV}
    (I : Inv X pins σ H s) (L : LamD X.env.scope scope X.N) (hX : X.A.handled = none) (hTl : T.lm = none) (hgX : X.A.guards = some [])
    (M : MadeD X s H f t c' params body scope di doc pm ctv) (hnm : scope.names.lookup nm = some .local)
    (hbind : ∃ k, bindArgs (PySem.W.kdv_fn "<lambda>" (qlam X) params (.expr body) scope (cloFrom X.env.cells scope.names []) (.ref t) doc pm (.ref c') ctv) ⟨[], []⟩ = seqItems? (.ref t) >>= k ∧ ∀ tok, k (some [Value.int di tok].toArray) = pure [(nm, .int di tok)])
    (tk : Takes (((wdOf X T).cx Ng qg sg g cdg X.A X.stack s H Eg).tr pn xe) W) (hr : Room (k + 1) (X.A.deeper (envOfC qg sg s.heap.objs.size g cdg)))
    (hbody : ∀ (A : Around) (outer : List Env) (s1 : Shared) (H1 : Hp) (E : XK), Room k (A.deeper (LamX.lamEnv X scope s1.heap.objs.size f c')) → A.guards = some [] → CE (LamX.lamCx X A outer s1 H1 E scope f c') T (fun c d _ H => E c d H) body db)
    (hN : Ng[i]? = some a) (hv : Vis sg a) (hd : (a == ("__debug__" : Str)) = false := by decide) (hcd : (a == ("__classdict__" : Str)) = false := by decide) :
    CE (((wdOf X T).cx Ng qg sg g cdg X.A X.stack s H Eg).tr pn xe) (wT T (lamI (gm X T) f c' (qlam X) ρ σ)) W (.Call (.Name a p1) [] [] p2) (dAct i fun S => db ρ S) := by
  refine ⟨fun pz sz σz Hz Q Iz ⟨ρz, S, m, hE, hS, p⟩ => ?_⟩
  unfold dAct at p
  split at p
  case h_2 => exact p.elim
  rename_i ei
  obtain ⟨w, ew, rw_⟩ := hE.at_ i _ ei
  unfold Rep at rw_
  obtain ⟨j, ej, rfl, hΦ⟩ := rw_
  cases ej
  obtain ⟨hEx, hno, hco⟩ := hΦ
  refine wpAny_Call_Name_kw (thn ((pe_var (pos := p1) (i := i) hN hv hd hcd).run pz sz σz Hz (fun v H1 => v = .ref f ∧ H1 = Hz) Iz ⟨.ref f, ew, rfl, rfl⟩) fun u s1 ⟨v, H1, I1, r1, q1, q2⟩ => ?_)
  rw [q1] at r1
  rw [q2] at I1
  obtain rfl : u = Value.ref f := r1
  have here : s1.heap.get? f = some (objD X params body scope t doc pm c' ctv) := I1.base.keep f _ M.o M.fn M.fr (fun z => nomatch (show f ∈ ([] : List Addr) from z))
  obtain ⟨tok, hd0⟩ := M.d
  have there : s1.heap.get? t = some (PySem.W.kdv_tup [.int di tok]) := I1.base.keep t _ hd0 M.tn M.tr (fun z => nomatch (show t ∈ ([] : List Addr) from z))
  have un : Un (frs X.stack) [] H Hz s.heap s1.heap := I1.base
  obtain ⟨⟨oc, us, tt, hoc, hdc, hvc⟩, _, _⟩ := I1.hok c' _ hco
  have hAd : (X.A.deeper (envOfC qg sg s.heap.objs.size g cdg)).handled = none := hX
  have pb : PostV (gm X T) (fun c d _ H => W c d σz H) σ m Hz Q (db ρ S) := by
    have q := post_bare (W' := fun c d _ H => W c d σz H) (σ' := σ) (fun _ _ _ h => h) p
    rw [← gm_bare hX hTl]
    exact q
  obtain ⟨kk, hb1, hb2⟩ := hbind
  have hbt : BindsTo s1 (PySem.W.kdv_fn "<lambda>" (qlam X) params (.expr body) scope (cloFrom X.env.cells scope.names []) (.ref t) doc pm (.ref c') ctv) ⟨[], []⟩ [(nm, .int di tok)] := BindsTo.of_defaults rfl there rfl hb1 (hb2 tok)
  refine PySem.W.callWith_F0 ⟨_, _, _, _, here⟩ (wpAny_call (codeAny_mono (R := CR (L2.CX X.prog X.w) (envOfC qg sg s.heap.objs.size g cdg :: X.stack) X.prog X.w Hz s1 Q (fun c d H => W c d σz H)) ?_ fun r s' hq => ?_))
  · refine PySem.W.kla_callFunE hr.depth here rfl L.co L.gen rfl ⟨c', oc, us, tt, rfl, hoc, hdc, hvc⟩ (hbt _ _ _ _ ?_)
    refine wpAny_newFunctionEnv (fun y hy => (L.own y hy).1) (fun y hy => by rw [List.mem_singleton.mp hy]; exact hnm) (fun h₁ hns hsb => ⟨I1.nolimit.fresh _ hsb, ?_⟩) L.kind
    show codeAny _ _ (.expr body (LamX.lamEnv X scope s1.heap.objs.size f c')) _ _
    have J := start_d (E := fun c d H => W c d σz H) (f := f) (c' := c') (tk := s1.toks + ([(nm, Value.int di tok)] : List (Str × Value)).length) I L I1.env0 hAd un hns fun b o e => hsb.extBut b o (Nat.ne_of_lt (Heap.lt_size e)) (Heap.get?_push_of_some _ e)
    have hb := hbody _ (envOfC qg sg s.heap.objs.size g cdg :: X.stack) s1 Hz (fun c d H => W c d σz H) (hr.deeper _) hgX
    refine PySem.W.kla_codeExpr (wpAny_mono (hb.run [] _ σ Hz Q J ⟨ρ, S, m, hEx, ?_, pb⟩) (fun v s' hq => ?_) fun e s' hq => hq)
    · exact relS_as (by show Gm.bare _ = Gm.bare _; rfl) hS
    · obtain ⟨w', H', J', rv, q⟩ := hq
      exact ⟨w', H', J'.os, J'.bare, J'.base, J'.hok, rv, q⟩
  · cases r with
    | error e => exact tk e s' (XE.of_call I1 (fun _ _ _ h => h) hq)
    | ok fl =>
      cases fl with
      | ret u => exact I1.after hq
      | _ => exact False.elim hq
/-- x(lambda n=i: body) -/
theorem ce_lamD {W : WX} {x : Str} {G : (Sto → Res PV) → Sto → Res PV} {kF kl j kk : Nat} {di : Int} {nm : Str} {c P : Addr} {params : Arguments} {body : Expr} {scope : Scope} {p lpos pos dp : Pos} {db : EnP → Sto → Res PV} (F : FL (wdOf X T) kF x G) (Cx_ : Ctx X j W) (hk1 : kF ≤ kl + 1) (hk2 : kl + 2 ≤ j) (hTl : T.lm = none)
    (hg : Gl X x) (TB : LamX.TabB X.base X.mg c P) (hcode : X.env.code = .ref c) (hmT : (P, qlam X) ∈ T.tabs) (hu : ∀ p ∈ T.tabs, p.1 = P → p.2 = qlam X) (L : LamD X.env.scope scope X.N) (hd0 : params.defaults = [.Constant (.int di) kk dp]) (hk0 : params.kw_defaults = []) (hnm : scope.names.lookup nm = some .local)
    (hbind : ∀ (q : Str) (cl : List (Str × Addr)) (t : Addr) (doc pm cv ctv : Value), ∃ k, bindArgs (PySem.W.kdv_fn "<lambda>" q params (.expr body) scope cl (.ref t) doc pm cv ctv) ⟨[], []⟩ = seqItems? (.ref t) >>= k ∧ ∀ tok, k (some [Value.int di tok].toArray) = pure [(nm, .int di tok)])
    (hbody : ∀ (A : Around) (outer : List Env) (s1 : Shared) (H1 : Hp) (E : XK) (f c' : Addr), Room kl (A.deeper (LamX.lamEnv X scope s1.heap.objs.size f c')) → A.guards = some [] → CE (LamX.lamCx X A outer s1 H1 E scope f c') T (fun c d _ H => E c d H) body db)
    (hdb : (x == ("__debug__" : Str)) = false := by decide) : CE X T W (.Call (.Name x p) [.Lambda params body scope lpos] [] pos) (fun ρ S => G (fun S => db ρ S) S) := by
  obtain ⟨g, st, cdv, N, a, d, hm, hk, FC_, Sc, hbd, hN0, hva, hd1, hd2, hG, hB⟩ := F.ex
  refine ⟨fun pins s σ H Q I ⟨ρ, S, m, hE, hS, q⟩ => ?_⟩
  refine wpAny_Call_Name_kw (ld_glob I hg hm ?_ hdb)
  refine PySem.W.callWith_K (h₀ := X.base) I.ok.mod.kin hk ?_ (by rfl) (by rfl)
  show wpAny _ _ (spliced ((false, eval (.Lambda params body scope lpos) X.env) :: backTo pos (starEach [] X.env))) _ _ s
  refine Calls.spliced_cons (make_d I TB hcode hmT hu hS.tab hd0 hk0 (L.has I.ok) fun f t c' doc' pm' ctv H1 s' I1 eN T1 M hco => Calls.spliced_nil ⟨I1.kIn, ?_⟩)
  have hS1 := relS_extN hS eN T1
  have st1 : Step m H m H1 := step_extN eN
  have hE1 := hE.step st1
  have nlst : ∀ u, H1 c' = some u → ¬ Tr u := fun u e t => by
    rw [hco] at e
    unfold LamX.CodeO at e
    cases e
    rcases t with ⟨_, q⟩ | ⟨_, q⟩ | ⟨_, _, q⟩ <;> cases q
  have nc : m.no c' := by
    refine ⟨fun z => ?_, fun z => ?_⟩
    · obtain ⟨vs, e, t⟩ := hS1.tracked z
      exact nlst vs e t
    · obtain ⟨_, vs, e, t⟩ := hS1.exs c' z
      exact nlst vs e t
  have hX := Cx_.room.hd
  have hbr : Bare (gm X T) := gm_bare hX hTl
  have q1 : PostV (gm X T) W σ m H1 Q (cleanR (runF 1 N.length (d fun S => db ρ S) [.lam] S)) := by
    have q0 : PostV (gm X T) W σ m H1 Q (G (fun S => db ρ S) S) := PostR.step st1 q
    rw [hG] at q0
    exact q0
  let i : LmI := lamI (gm X T) f c' (qlam X) ρ σ
  let Y : Cx := (wdOf X T).cx N x (defScope st) g cdv X.A X.stack s' H1 (fun c d H => W c d σ H)
  have q2 : PostV (gm Y (wT T i)) (fun c d _ H => W c d σ H) (L2.start N [.ref f]) m H1 Q (endOf (d (fun S => db ρ S) (startP N.length [.lam]) S)) := by
    refine post_wide (X := X) (Y := Y) rfl rfl hbr (fun _ _ _ h => h) (σ := σ) (W := W) ?_
    have e : runF 1 N.length (d fun S => db ρ S) [.lam] S = endOf (d (fun S => db ρ S) (startP N.length [.lam]) S) := rfl
    rw [← e]
    exact q1
  have rx : RepL (gm Y (wT T i)) m H1 [.lam] [.ref f] := RepL.cons (by unfold Rep; exact ⟨i, rfl, rfl, hE1, nc, hco⟩) RepL.nil
  have hS2 : RelS (gm Y (wT T i)) m S H1 := relS_as (by show Gm.bare _ = Gm.bare _; rfl) hS1
  have hr2 : Room (kl + 2) X.A := Cx_.room.mono hk2
  have body1 := hB i (fun S => db ρ S) X.A X.stack s' H1 (fun c d H => W c d σ H) ((hr2.deeper _).mono hk1) Cx_.gd fun pn xe W' p1 p2 tk' => act_d (p1 := p1) (p2 := p2) (ρ := ρ) (db := db) I1 L hX hTl Cx_.gd M hnm (hbind _ _ _ _ _ _ _) tk' (hr2.deeper _) (fun A outer s1 H2 E h1 h2 => hbody A outer s1 H2 E f c' h1 h2) hN0 hva hd1 hd2
  have run := run_body (k := kl + 1) (E := fun c d H => W c d σ H) (Q := Q) FC_ Sc hbd hr2 I1.env0 (show Vals [V.ref f] [Value.ref f] from .cons rfl .nil) rfl body1 ⟨_, S, m, start_rel rx, hS2, endOf_post (fun _ _ _ _ _ h => h) q2⟩
  refine wpAny_call (codeAny_mono run fun r s2 hq => ?_)
  cases r with
  | error e => exact Cx_.tk e s2 (XE.of_call I1 (fun _ _ _ h => h) hq)
  | ok fl =>
    cases fl with
    | ret u => exact I1.after hq
    | _ => exact False.elim hq
end
/-! ### {k: x} -/
def dDisp1 (k : Int) (i : Nat) : EnP → Sto → Res PV := fun ρ S => match ρ[i]? with
  | some (some v) => .ok (.nd [.inl k] [v]) S
  | _ => .bad
theorem upd_two {H : Hp} {a : Addr} {u v : HO} : upd (upd H a u) a v = upd H a v := by
  funext b
  by_cases h : b = a
  · rw [h, upd_same, upd_same]
  · rw [upd_ne h, upd_ne h, upd_ne h]
theorem ce_disp1 {X : Cx} {T : Tb} {W : WX} {k : Int} {i j : Nat} {x : Str} {p1 p2 pos : Pos} (hN : X.N[i]? = some x) (hv : Vis X.env.scope x) (hd : (x == ("__debug__" : Str)) = false := by decide) (hcd : (x == ("__classdict__" : Str)) = false := by decide) :
    CE X T W (.Dict [some (.Constant (.int k) j p1)] [.Name x p2] pos) (dDisp1 k i) :=
  pe_imp (pe_disp (pps_cons pe_int (pe_var hN hv hd hcd) pps_nil) rfl rfl (by simp) (by simp)) fun σ H Q ⟨ρ, S, m, hE, hS, p⟩ => fun a ha => by
    unfold dDisp1 at p
    split at p
    · rename_i v ev
      obtain ⟨w, ew, rw_⟩ := hE.at_ i v ev
      refine ⟨w, ew, upd_same, [(.inl k, w)], rfl, by simp, ?_⟩
      rw [upd_two]
      refine p m _ _ (step_new ha) (hS.new ha) ?_
      show Rep _ _ _ (.nd [.inl k] [v]) _
      unfold Rep
      exact ⟨a, [w], rfl, hS.fresh ha, upd_same, rfl, RepL.cons (Rep.step (step_new ha) _ _ rw_) RepL.nil⟩
    · exact p.elim
def lamDB (sc scope : Scope) (N : List Str) : Bool :=
  decide (scope.kind = .function) && !scope.isCoroutine && !scope.isGenerator && scope.names.all fun y => !decide (y.2 = .cell) && (!decide (y.2 = .local) || !N.contains y.1) && (!decide (y.2 = .free) || decide (sc.names.lookup y.1 = some .cell) || decide (sc.names.lookup y.1 = some .free))
theorem lamD_by {sc scope : Scope} {N : List Str} (h : lamDB sc scope N = true) : LamD sc scope N := by
  unfold lamDB at h
  simp only [Bool.and_eq_true, Bool.or_eq_true, Bool.not_eq_true', decide_eq_true_eq, decide_eq_false_iff_not, List.all_eq_true] at h
  obtain ⟨⟨⟨h1, h2⟩, h3⟩, h4⟩ := h
  refine ⟨h1, h2, h3, fun y hy => ⟨(h4 y hy).1.1, fun e z => ?_⟩, fun y hy e => ?_⟩
  · rcases (h4 y hy).1.2 with q | q
    · exact q e
    · rw [List.contains_eq_mem] at q
      simp [z] at q
  · rcases (h4 y hy).2 with (q | q) | q
    · exact absurd e q
    · exact .inl q
    · exact .inr q
end Mi
end
section
set_option Elab.async false
set_option linter.all false
set_option maxRecDepth 100000
set_option maxHeartbeats 2000000
namespace Mi
open PySem PySem.Spec PyProof.Rows L2
/-! ### l.index(x) -/
def fIndex (x y : PV) (S : Sto) : Res PV := match toDS x S, toD y with
  | some (.list ds), some d => if SeqAt.shaped (.list ds) = true ∧ SeqAt.shaped d = true then (match ds.findIdx? (fun z => PyData.eqv z d) with | some j => .ok (.int (j : Nat)) S | none => .bad) else .bad
  | _, _ => .bad
def index1 (x : PV) (S : Sto) : List PV → Res PV
  | [y] => fIndex x y S
  | _ => .bad
def dIndex (d : EnP → Sto → Res PV) (dl : EnP → Sto → Res (List PV)) : EnP → Sto → Res PV := fun ρ S => (d ρ S).bind fun x S1 => if (lstOf x S1).isSome = true then (dl ρ S1).bind fun ys S2 => index1 x S2 ys else .bad
theorem type_list_index : typeOf (.builtin "list.index") = pure (.type "method_descriptor") := by show builtinType "list.index" = _; first | rfl | kernel_rfl
section
variable {X : Cx} {T : Tb} {W : WX} {o e : Expr} {es : List Expr} {d : EnP → Sto → Res PV} {dl : EnP → Sto → Res (List PV)} {apos cpos : Pos}
theorem ce_index (hu : X.A.units + 65 < cLine) (ho : CE X T W o d) (ha : CA X T W (e :: es) dl)
    (hbase : attributeBase o "index" X.env (eval o X.env) = eval o X.env := by rfl)
    (hfew : ((backTo cpos (starEach (e :: es) X.env)).all (fun x => !x.1) && (backToKw cpos (keywordEach [] X.env)).all (fun x => x.1.isSome)
      && decide ((e :: es).length + ([] : List Keyword).length + (if ([] : List Keyword).isEmpty then 0 else 1) < 30)) = true := by rfl)
    (hline : (apos.endLine == cpos.line) = true := by rfl) (hs : starEach (e :: es) X.env = (false, eval e X.env) :: starEach es X.env := by rfl) (hplain : (backTo cpos (starEach es X.env)).any (·.1) = false := by rfl) :
    CE X T W (.Call (.Attribute o "index" apos) (e :: es) [] cpos) (dIndex d dl) :=
  pe_imp (pe_bm PySem.F.plainAttrs_list PySem.F.slot_list_index type_list_index (mt_indexD hu) ho ha hbase hfew hline hs hplain) fun σ H Q ⟨ρ, S, m, hE, hS, p⟩ =>
    tr_bind (f := fun (x : PV) (ρ : EnP) (S1 : Sto) => if (lstOf x S1).isSome = true then (dl ρ S1).bind fun ys S2 => index1 x S2 ys else .bad) hE hS p fun x S1 m1 H1 w s1 hE1 hS1 hr1 p1 => by
      cases e0 : lstOf x S1 with
      | none => rw [e0] at p1; exact p1.elim
      | some xs0 =>
        rw [e0, if_pos (show (some xs0).isSome = true from rfl)] at p1
        obtain ⟨a, vs0, rfl, f1, _⟩ := lstOf_rep hS1 hr1 e0
        refine ⟨.inl ⟨rfl, vs0, f1⟩, tr_bind (f := fun (ys : List PV) (_ : EnP) (S2 : Sto) => index1 x S2 ys) hE1 hS1 p1 fun ys S2 m2 H2 ws s2 hE2 hS2 hr2 p2 => ?_⟩
        unfold index1 at p2
        split at p2
        · rename_i y
          obtain ⟨u, rfl, ru⟩ := one_rep hr2
          unfold fIndex at p2
          split at p2
          · rename_i ds dd h1 h2
            split at p2
            · rename_i h
              split at p2
              · rename_i j hj
                obtain ⟨hl, hz, hn⟩ := List.findIdx?_eq_some_iff_getElem.mp hj
                refine ⟨a, u, dd, ds, j, ds[j], rfl, rfl, dpS_of hS2 (hr1.step s2) h1, dp_of y u dd ru h2, h.1, h.2, List.getElem?_eq_getElem hl, hz, fun k z' hk hz' => ?_, p2.here hS2 (mk_int _)⟩
                have hk2 : k < ds.length := by omega
                rw [List.getElem?_eq_getElem hk2] at hz'
                cases hz'
                simpa using hn k hk
              · exact p2.elim
            · exact p2.elim
          · exact p2.elim
        · exact p2.elim
end
end Mi
end
section
set_option Elab.async false
set_option linter.all false
set_option maxRecDepth 100000
set_option maxHeartbeats 2000000
namespace Mi
open PySem PySem.Spec PyProof.Rows L2
/-! ### xs[::-1] -/
def fRev (mt : Bool) (x : PV) (S : Sto) : Res PV := match lstOf x S with
  | some xs => mkLst mt xs.reverse S
  | none => .bad
def dRev (mt : Bool) (d : EnP → Sto → Res PV) : EnP → Sto → Res PV := fun ρ S => (d ρ S).bind fun x S1 => fRev mt x S1
theorem RepL.rev {g : Gm} {m : Mm} {H : Hp} : ∀ {xs : List PV} {vs : List V}, RepL g m H xs vs → RepL g m H xs.reverse vs.reverse
  | [], vs, h => by
    unfold RepL at h
    subst h
    exact RepL.nil
  | x :: xs, vs, h => by
    unfold RepL at h
    obtain ⟨v, vs', rfl, h1, h2⟩ := h
    rw [List.reverse_cons, List.reverse_cons]
    exact RepL.append (RepL.rev h2) (RepL.cons h1 RepL.nil)
section
variable {X : Cx} {T : Tb} {W : WX} {pos p1 p2 p3 : Pos} {k : Nat} {a : Expr} {da : EnP → Sto → Res PV}
theorem ce_rev (mt : Bool) (hb : mt = true → Bare (gm X T)) (ha : CE X T W a da) : CE X T W (.Subscript a (.Slice none none (some (.UnaryOp .USub (.Constant (.int 1) k p1) p2)) p3) pos) (dRev mt da) :=
  pe_imp (pe_revL ha) fun σ H Q ⟨ρ, S, m, hE, hS, p⟩ =>
    tr_bind (f := fun (x : PV) (ρ : EnP) (S1 : Sto) => fRev mt x S1) hE hS p fun x S1 m1 H1 w s1 hE1 hS1 hr1 p1 => by
      unfold fRev at p1
      cases e : lstOf x S1 with
      | none => rw [e] at p1; exact p1.elim
      | some xs =>
        rw [e] at p1
        obtain ⟨b, vs, rfl, h1, h2⟩ := lstOf_rep hS1 hr1 e
        exact ⟨b, vs, rfl, h1, (new_lst hb hS1 (RepL.rev h2) p1).2⟩
end
/-! ### lists of flat values made under an error -/
theorem flatL_any {g g' : Gm} {m m' : Mm} {H H' : Hp} : ∀ {xs : List PV} {vs : List V}, xs.all flatP = true → RepL g m H xs vs → RepL g' m' H' xs vs
  | [], _, _, r => by unfold RepL at r; subst r; exact RepL.nil
  | x :: xs, _, h, r => by
    unfold RepL at r
    obtain ⟨v, ws, rfl, h1, h2⟩ := r
    rw [List.all_cons, Bool.and_eq_true] at h
    exact RepL.cons (flat_any h.1 h1) (flatL_any h.2 h2)
def mkLstF (xs : List PV) (S : Sto) : Res PV := if xs.all flatP = true then mkLst true xs S else .bad
def dLstF (dl : EnP → Sto → Res (List PV)) : EnP → Sto → Res PV := fun ρ S => (dl ρ S).bind fun xs S1 => mkLstF xs S1
def fAppF (n : Nat) (y : PV) (S : Sto) : Res PV := if flatP y = true then fApp n y S else .bad
def appF1 (n : Nat) (S : Sto) : List PV → Res PV
  | [y] => fAppF n y S
  | _ => .bad
def dAppF (d : EnP → Sto → Res PV) (dl : EnP → Sto → Res (List PV)) : EnP → Sto → Res PV := fun ρ S => (d ρ S).bind fun x S1 => match x with
  | .ref n => (match S1[n]? with
    | some (SO.lst _) => (dl ρ S1).bind fun ys S2 => appF1 n S2 ys
    | _ => .bad)
  | _ => .bad
section
variable {X : Cx} {T : Tb} {W : WX} {pos : Pos} {o e : Expr} {es : List Expr} {d : EnP → Sto → Res PV} {dl : EnP → Sto → Res (List PV)} {apos cpos : Pos}
theorem ce_lstF (h : CA X T W es dl) : CE X T W (.List es pos) (dLstF dl) :=
  pe_imp (pe_lst h) fun σ H Q ⟨ρ, S, m, hE, hS, p⟩ => tr_bind (f := fun xs _ S1 => mkLstF xs S1) hE hS p fun xs S1 m1 H1 ws s1 hE1 hS1 hr1 p1 => by
    unfold mkLstF at p1
    split at p1
    · rename_i hf
      unfold mkLst at p1
      split at p1
      · rename_i hl
        refine ⟨by rw [← hr1.length]; exact lim_line hl, fun a ha => ?_⟩
        have hB : RelS (gm X T).bare m1 S1 H1 := relS_as (g := gm X T) (g' := (gm X T).bare) rfl hS1
        have hA := hB.alloc rfl ha (flatL_any hf hr1)
        refine p1 (m1.push a) _ _ (step_alloc ha) (relS_as (g := (gm X T).bare) (g' := gm X T) rfl hA) ?_
        show Rep _ _ _ (.ref S1.length) _
        unfold Rep
        exact ⟨a, by rw [List.getElem?_append_right (by rw [hS1.len]; omega), hS1.len]; simp, rfl⟩
      · exact p1.elim
    · exact p1.elim
theorem ce_appF (ho : CE X T W o d) (ha : CA X T W (e :: es) dl)
    (hbase : attributeBase o "append" X.env (eval o X.env) = eval o X.env := by rfl)
    (hfew : ((backTo cpos (starEach (e :: es) X.env)).all (fun x => !x.1) && (backToKw cpos (keywordEach [] X.env)).all (fun x => x.1.isSome)
      && decide ((e :: es).length + ([] : List Keyword).length + (if ([] : List Keyword).isEmpty then 0 else 1) < 30)) = true := by rfl)
    (hline : (apos.endLine == cpos.line) = true := by rfl) (hs : starEach (e :: es) X.env = (false, eval e X.env) :: starEach es X.env := by rfl) (hplain : (backTo cpos (starEach es X.env)).any (·.1) = false := by rfl) :
    CE X T W (.Call (.Attribute o "append" apos) (e :: es) [] cpos) (dAppF d dl) :=
  pe_imp (pe_bm PySem.F.plainAttrs_list PySem.F.slot_list_append PySem.F.type_list_append mt_append ho ha hbase hfew hline hs hplain) fun σ H Q ⟨ρ, S, m, hE, hS, p⟩ =>
    tr_bind (f := fun (x : PV) (ρ : EnP) (S1 : Sto) => match x with | .ref n => (match S1[n]? with | some (SO.lst _) => (dl ρ S1).bind fun ys S2 => appF1 n S2 ys | _ => .bad) | _ => .bad) hE hS p fun x S1 m1 H1 w s1 hE1 hS1 hr1 p1 => by
      cases x with
      | ref n =>
        have p1 : PostV (gm X T) W σ m1 H1 Q (match S1[n]? with | some (SO.lst _) => (dl ρ S1).bind fun ys S2 => appF1 n S2 ys | _ => .bad) := p1
        split at p1
        case h_2 => exact p1.elim
        rename_i xs0 e0
        obtain ⟨a, vs0, e1, rfl, f2, _⟩ := ref_any hS1 hr1 e0
        refine ⟨.inl ⟨rfl, vs0, .inl (.inl f2)⟩, tr_bind (f := fun (ys : List PV) (ρ : EnP) (S2 : Sto) => appF1 n S2 ys) hE1 hS1 p1 fun ys S2 m2 H2 ws s2 hE2 hS2 hr2 p2 => ?_⟩
        unfold appF1 at p2
        split at p2
        · rename_i y
          obtain ⟨u, rfl, ru⟩ := one_rep hr2
          unfold fAppF at p2
          split at p2
          · rename_i hf
            unfold fApp at p2
            split at p2
            · rename_i xs e3
              split at p2
              · rename_i hl
                have hB : RelS (gm X T).bare m2 S2 H2 := relS_as (g := gm X T) (g' := (gm X T).bare) rfl hS2
                have rr : Rep (gm X T).bare m2 H2 (.ref n) (.ref a) := by
                  have := hr1.step s2
                  unfold Rep at this ⊢
                  exact this
                obtain ⟨a', vs, g1, g2, g3, g4⟩ := ref_rep hB rr e3
                cases g2
                have hn2 : n < S2.length := (List.getElem?_eq_some_iff.mp e3).1
                refine ⟨a, vs, u, rfl, rfl, g3, ?_, ?_⟩
                · rw [sizeLine_eq, ← g4.length]; exact hl
                · exact p2 m2 _ _ (step_write (List.mem_of_getElem? g1) g3) (relS_as (g := (gm X T).bare) (g' := gm X T) rfl (hB.write rfl g1 hn2 g3 (g4.append (RepL.cons (flat_any hf ru) RepL.nil)))) mk_non
              · exact p2.elim
            · exact p2.elim
          · exact p2.elim
        · exact p2.elim
      | _ => exact p1.elim
end
/-! ### x in a tuple of data -/
def rInT (neg : Bool) (K : PySem.W.Frag) : R2 := fun x y H Q => ∃ d ds, Dp K H x d ∧ Dp K H y (.tuple ds) ∧ SeqAt.shaped d = true ∧ SeqAt.shaped (.tuple ds) = true ∧ Q (.bl (if neg = true then !(ds.any fun z => PyData.eqv z d) else ds.any fun z => PyData.eqv z d)) H
theorem op_inT {X : Cx} (hu : X.A.units + 65 < cLine) : OpR X (compareOp .In) (rInT false X.K) := by
  intro pins s σ H x y v u Q I rx ry h
  obtain ⟨d, ds, hd, he, sd, se, q⟩ := h
  obtain ⟨as, r1⟩ := Dp.reads I d x v hd rx
  obtain ⟨bs, r2⟩ := Dp.reads I (.tuple ds) y u he ry
  exact SeqAt.in_tuple_reads r2 r1 (SeqAt.canLay_of_shaped se) (SeqAt.canLay_of_shaped sd) (room_in_shaped sd hu) ⟨.bl _, H, I, rfl, q⟩
theorem op_notInT {X : Cx} (hu : X.A.units + 65 < cLine) : OpR X (compareOp .NotIn) (rInT true X.K) := by
  intro pins s σ H x y v u Q I rx ry h
  obtain ⟨d, ds, hd, he, sd, se, q⟩ := h
  obtain ⟨as, r1⟩ := Dp.reads I d x v hd rx
  obtain ⟨bs, r2⟩ := Dp.reads I (.tuple ds) y u he ry
  exact SeqAt.notIn_tuple_reads r2 r1 (SeqAt.canLay_of_shaped se) (SeqAt.canLay_of_shaped sd) (room_in_shaped sd hu) ⟨.bl _, H, I, rfl, q⟩
def fInT (neg : Bool) (x y : PV) (S : Sto) : Res PV := match toDS x S, toDS y S with
  | some d, some (.tuple ds) => if SeqAt.shaped d = true ∧ SeqAt.shaped (.tuple ds) = true then .ok (.bl (if neg = true then !(ds.any fun z => PyData.eqv z d) else ds.any fun z => PyData.eqv z d)) S else .bad
  | _, _ => .bad
theorem sn_inT {X : Cx} {T : Tb} (neg : Bool) : Snd (gm X T) (rInT neg X.K) (fInT neg) := by
  intro W σ m S H x y v u Q hS rx ry p
  unfold fInT at p
  split at p
  · rename_i d ds h1 h2
    split at p
    · rename_i h
      exact ⟨d, ds, dpS_of hS rx h1, dpS_of hS ry h2, h.1, h.2, p.here hS (mk_bl _)⟩
    · exact p.elim
  · exact p.elim
end Mi
end
section
set_option Elab.async false
set_option linter.all false
set_option maxRecDepth 100000
set_option maxHeartbeats 2000000
namespace Mi
open PySem PySem.Spec PyProof.Rows L2
/-! ### dicts with tuple keys: the machine's side -/
def mergeT (acc ms : List (List Key × V)) : List (List Key × V) := ms.foldl (fun acc kv => putK acc kv.1 kv.2) acc
theorem KT_merge {H : Hp} {ms : List (List Key × V)} {xs : List (List Key × Addr × Value)} (r : KT H ms xs) : ∀ {acc : List (List Key × V)} {ax : List (List Key × Addr × Value)}, KT H acc ax → KT H (mergeT acc ms) (storedAllH ax xs) := by
  induction r with
  | nil => exact fun q => q
  | @cons p q ps qs h t ih =>
    intro acc ax r0
    have e := ih (r0.put p.1 h.2.1 h.2.2)
    rw [h.1] at e
    have e2 : mergeT acc (p :: ps) = mergeT (putK acc q.1 p.2) ps := by
      show mergeT (putK acc p.1 p.2) ps = _
      rw [h.1]
    rw [e2]
    exact e
theorem length_mergeT : ∀ (ms acc : List (List Key × V)), (mergeT acc ms).length ≤ acc.length + ms.length
  | [], acc => by show acc.length ≤ acc.length + 0; omega
  | p :: r, acc => by
    have h1 := length_mergeT r (putK acc p.1 p.2)
    have h2 := length_putK acc p.1 p.2
    show (mergeT (putK acc p.1 p.2) r).length ≤ _
    rw [List.length_cons]; omega
section
variable {prog : Program} {w : World} {K : Type} [DecidableEq K] {knd : HeapKind prog w K} {A : Around} {E : Value → Shared → Prop} {s : Shared}
theorem disp_H {env : Env} {keys : List (Option Expr)} {values : List Expr} {pos : Pos} {Q : Value → Shared → Prop} (hu : knd.room A)
    (hall : keys.all (·.isSome) = true) (hl : keys.length = values.length) (h0 : keys ≠ []) (hlen : keys.length ≤ 15)
    (h : wpAny (model prog w) A (evalPairs (pairTrees keys values env pos)) (fun vs s₁ => ∃ ps, CarriesH knd s₁.heap vs ps ∧ s₁.heap.DictOfH knd s.heap.objs.size [] ∧
      ∀ h' tk, h'.DictOfH knd s.heap.objs.size (storedAllH [] ps) → Heap.SameBut s.heap.objs.size s₁.heap h' → Q (.ref s.heap.objs.size) { s₁ with heap := h', toks := tk }) E
      { s with heap := s.heap.push { cls := .type "dict", data := .dict #[] } }) :
    wpAny (model prog w) A (eval (.Dict keys values pos) env) Q E s := by
  have hn := pairTrees_length keys values env pos hall hl
  have hp : pairTrees keys values env pos ≠ [] := fun he => by
    rw [he] at hn
    exact h0 (List.length_eq_zero_iff.mp hn.symm)
  have hl2 : (pairTrees keys values env pos).length ≤ 15 := by rw [hn]; exact hlen
  rw [arm_eval_Dict, zip_pairTrees keys values env pos hall hl, dictDisplay_pairs _ hp (by omega)]
  exact wpAny_bind (wpAny_standAt (wpAny_bind (wpAny_subDictH (knd := knd) (Q := fun d s' => wpAny (model prog w) A (pure (Value.ref d)) Q E s') hu hl2
    (wpAny_mono h (fun vs s₁ h₁ => by obtain ⟨ps, hc, hm, hq⟩ := h₁; exact ⟨ps, hc, hm, fun h' tk a b => wpAny_pure (hq h' tk a b)⟩) fun _ _ e => e))))
end
/-- {k: v, ..} with keys that are tuples -/
def tDispT (trs : List (TE × TE)) : TE := fun σ H Q => ∀ p, H p = none → tPairs trs σ (upd H p (.dT [])) fun ps H2 => H2 p = some (.dT []) ∧ ∃ zs : List (List Key × Addr × V), ps = zs.map (fun z => (V.ref z.2.1, z.2.2)) ∧ (∀ z ∈ zs, H2 z.2.1 = some (.tup (z.1.map kV))) ∧ zs.length ≤ 15 ∧ Q (.ref p) (upd H2 p (.dT (mergeT [] (zs.map fun z => (z.1, z.2.2)))))
theorem carriesT {X : Cx} {pins : List (Addr × Obj)} {σ : L2.St} {H : Hp} {s : Shared} (I : Inv X pins σ H s) : ∀ {zs : List (List Key × Addr × V)} {ws : List (Value × Value)}, (∀ z ∈ zs, H z.2.1 = some (.tup (z.1.map kV))) → VV (zs.map fun z => (V.ref z.2.1, z.2.2)) ws → ∃ rs, CarriesH (tupleKind (mixKind X.prog X.w)) s.heap ws rs ∧ KT H (zs.map fun z => (z.1, z.2.2)) rs
  | [], _, _, r => by
    rw [List.map_nil] at r
    cases r
    exact ⟨[], True.intro, .nil⟩
  | z :: zs, _, hz, r => by
    rw [List.map_cons] at r
    cases r with
    | @cons a b as bs h t =>
      obtain ⟨rs, c, q⟩ := carriesT I (fun z h => hz z (List.mem_cons_of_mem _ h)) t
      obtain ⟨b1, b2⟩ := b
      obtain ⟨h1, h2⟩ := h
      have h1 : b1 = Value.ref z.2.1 := h1
      have hk := hz z List.mem_cons_self
      exact ⟨(z.1, z.2.1, b2) :: rs, ⟨h1, rfl, key_of I.hok hk, c⟩, .cons ⟨rfl, hk, h2⟩ q⟩
theorem pe_dispT {X : Cx} {pos : Pos} {keys : List (Option Expr)} {values : List Expr} {trs : List (TE × TE)} (hu : X.A.units + 65 < cLine) (h : PPs X pos keys values trs) (hall : keys.all (·.isSome) = true) (hl : keys.length = values.length) (h0 : keys ≠ [])
    (h15 : keys.length ≤ 15) : PE X (.Dict keys values pos) (tDispT trs) := by
  refine ⟨fun pins s σ H Q I q => ?_⟩
  have hn := I.hok.fresh (Nat.le_refl s.heap.objs.size)
  have I1 := I.laid (a := s.heap.objs.size) (o := .dT []) (h' := s.heap.push { cls := .type "dict", data := .dict #[] }) (t' := s.toks) (fun _ _ q => Heap.get?_push_of_some _ q) (Nat.le_refl _) (dt_empty s.heap I.big)
  refine disp_H (knd := tupleKind (mixKind X.prog X.w)) (show X.A.units < cLine by omega) hall hl h0 h15 (thn (h.run pins _ σ _ _ I1 (q _ hn)) fun ws s2 ⟨ps, H2, I2, rel, e, zs, ep, hz, lk, q2⟩ => ?_)
  subst ep
  obtain ⟨rs, c, rk⟩ := carriesT I2 hz rel
  obtain ⟨z, hd, xs0, r0, dd⟩ := dt_of I2.hok e
  cases r0
  refine ⟨rs, c, dd, fun h' tk dd' hs => ⟨.ref s.heap.objs.size, _, ?_, rfl, q2⟩⟩
  have hz2 : (mergeT [] (zs.map fun z => (z.1, z.2.2))).length ≤ sizeLine := by
    have h1 := length_mergeT (zs.map fun z => (z.1, z.2.2)) []
    rw [List.length_nil, List.length_map] at h1
    rw [sizeLine_eq]; omega
  obtain ⟨q0, es, ep, hq, h2, h3, h4, _, h5⟩ := dd'
  refine d_write I2 (by rw [e]; exact True.intro) hs ⟨q0, hq⟩ ⟨hz2, hd, _, (KT_merge rk .nil).keeps fun c ys ec => ?_, q0, es, ep, hq, h2, h3, h4, h5⟩
  rw [upd_ne (ne_of ec e (fun z => nomatch z))]
  exact ec
/-- d.update(d2) -/
def rUpdT : V → List V → Hp → VK → Prop := fun x xs H Q => ∃ (a b : Addr) (kvs more : List (List Key × V)), x = .ref a ∧ xs = [.ref b] ∧ a ≠ b ∧ H a = some (.dT kvs) ∧ H b = some (.dT more) ∧ kvs ≠ [] ∧ kvs.length + more.length ≤ sizeLine ∧ Q .non (upd H a (.dT (mergeT kvs more)))
theorem mt_updT {X : Cx} (hu : X.A.units + 65 < cLine) : MtR X "dict.update" rUpdT := by
  intro pins s σ H x xs v us Q I rx rxs h
  obtain ⟨a, b, kvs, more, rfl, rfl, ne, e1, e2, n0, lk, q⟩ := h
  cases rx
  cases rxs with
  | cons ry rt =>
    cases rt
    cases ry
    obtain ⟨z1, hd1, x1, r1, d1⟩ := dt_of I.hok e1
    obtain ⟨z2, hd2, x2, r2, d2⟩ := dt_of I.hok e2
    have l1 := Paired.length r1
    have l2 := Paired.length r2
    refine call_update_dictH (knd := tupleKind (mixKind X.prog X.w)) (tupleKind_room_in1 (by omega)) ne hd2 d1 d2 (.inl (fun z => n0 (List.length_eq_zero_iff.mp (by rw [l1, z]; rfl)))) (by omega) fun h' dd' _ hs => ?_
    refine ⟨.non, _, ?_, rfl, q⟩
    have hz2 : (mergeT kvs more).length ≤ sizeLine := by
      have h1 := length_mergeT more kvs
      omega
    obtain ⟨q0, es, ep, hq, h2, h3, h4, _, h5⟩ := dd'
    refine d_write (t' := s.toks) I (by rw [e1]; exact True.intro) hs ⟨q0, hq⟩ ⟨hz2, hd1, _, (KT_merge r2 r1).keeps fun c ys ec => ?_, q0, es, ep, hq, h2, h3, h4, h5⟩
    rw [upd_ne (ne_of ec e1 (fun z => nomatch z))]
    exact ec
end Mi
end
section
set_option Elab.async false
set_option linter.all false
set_option maxRecDepth 100000
set_option maxHeartbeats 2000000
namespace Mi
open PySem PySem.Spec PyProof.Rows L2
/-! ### dicts with tuple keys: the mirror -/
def putT (ks : List (List Int)) (k : List Int) : List (List Int) := if k ∈ ks then ks else ks ++ [k]
def putsT (ks more : List (List Int)) : List (List Int) := more.foldl putT ks
theorem map_inl_inj {a b : List Int} (h : a.map (Sum.inl : Int → Key) = b.map Sum.inl) : a = b := by
  induction a generalizing b with
  | nil => cases b with
    | nil => rfl
    | cons => cases h
  | cons x xs ih => cases b with
    | nil => cases h
    | cons y ys =>
      simp only [List.map_cons, List.cons.injEq, Sum.inl.injEq] at h
      rw [h.1, ih h.2]
theorem putT_is (ks : List (List Int)) (k : List Int) : (putT ks k).map kvT = putK (ks.map kvT) (k.map Sum.inl) (.bl true) := by
  unfold putT putK
  have any : ((ks.map kvT).any fun kv => decide (kv.1 = k.map Sum.inl)) = decide (k ∈ ks) := by
    induction ks with
    | nil => simp
    | cons x xs ih =>
      rw [List.map_cons, List.any_cons, ih]
      by_cases e : k = x
      · subst e; simp [kvT]
      · have : ¬ (kvT x).1 = k.map Sum.inl := fun z => e (map_inl_inj z).symm
        simp [this, e]
  rw [any]
  by_cases e : k ∈ ks
  · rw [if_pos e, if_pos (by simpa using e)]
    have : ∀ l : List (List Int), (l.map kvT).map (fun kv => if kv.1 = k.map Sum.inl then (kv.1, V.bl true) else kv) = l.map kvT := fun l => by
      induction l with
      | nil => rfl
      | cons x xs ih =>
        rw [List.map_cons, List.map_cons, ih]
        congr 1
        split <;> rfl
    rw [this]
  · rw [if_neg e, if_neg (by simpa using e), List.map_append]
    rfl
theorem putsT_is : ∀ (more ks : List (List Int)), (putsT ks more).map kvT = mergeT (ks.map kvT) (more.map kvT)
  | [], ks => rfl
  | k :: r, ks => by
    show (putsT (putT ks k) r).map kvT = mergeT (putK (ks.map kvT) (kvT k).1 (kvT k).2) (r.map kvT)
    rw [putsT_is r (putT ks k), putT_is]
    rfl
/-- a tuple of ints -/
def intL : List PV → Option (List Int)
  | [] => some []
  | .int i :: r => (intL r).map fun l => i :: l
  | _ => none
def keyT : PV → Option (List Int)
  | .tup xs => intL xs
  | _ => none
theorem intL_rep {g : Gm} {m : Mm} {H : Hp} : ∀ {xs : List PV} {vs : List V} {k : List Int}, intL xs = some k → RepL g m H xs vs → vs = (k.map Sum.inl).map kV
  | [], vs, k, e, r => by
    cases e
    unfold RepL at r
    exact r
  | x :: xs, vs, k, e, r => by
    cases x with
    | int i =>
      unfold RepL at r
      obtain ⟨v, ws, rfl, h1, h2⟩ := r
      cases q : intL xs with
      | none => simp [intL, q] at e
      | some l =>
        simp [intL, q] at e
        subst e
        rw [rep_int h1, intL_rep q h2]
        rfl
    | _ => cases e
theorem keyT_rep {g : Gm} {m : Mm} {H : Hp} {x : PV} {v : V} {k : List Int} (e : keyT x = some k) (r : Rep g m H x v) : ∃ b, v = .ref b ∧ H b = some (.tup ((k.map Sum.inl).map kV)) := by
  cases x with
  | tup xs =>
    obtain ⟨a, vs, e1, h1, h2⟩ := tup_repS r
    rw [intL_rep e h2] at h1
    exact ⟨a, e1, h1⟩
  | _ => cases e
/-- pairs, from the left -/
def dPairs : List ((EnP → Sto → Res PV) × (EnP → Sto → Res PV)) → EnP → Sto → Res (List (PV × PV))
  | [], _, S => .ok [] S
  | p :: r, ρ, S => (p.1 ρ S).bind fun x S1 => (p.2 ρ S1).bind fun y S2 => (dPairs r ρ S2).bind fun zs S3 => .ok ((x, y) :: zs) S3
def RepPs (g : Gm) (m : Mm) (H : Hp) : List (PV × PV) → List (V × V) → Prop
  | [], ps => ps = []
  | z :: zs, ps => ∃ p qs, ps = p :: qs ∧ Rep g m H z.1 p.1 ∧ Rep g m H z.2 p.2 ∧ RepPs g m H zs qs
theorem pairs_run {g : Gm} {W : WX} : ∀ (ds : List ((EnP → Sto → Res PV) × (EnP → Sto → Res PV))) (σ : L2.St) (H : Hp) (Q : List (V × V) → Hp → Prop), tr g W (fun m' H' => RepPs g m' H') (dPairs ds) σ H Q → tPairs (ds.map fun d => (tv g W d.1, tv g W d.2)) σ H Q
  | [], σ, H, Q, ⟨ρ, S, m, hE, hS, p⟩ => p m H [] (Step.refl _ _) hS rfl
  | d :: ds, σ, H, Q, ⟨ρ, S, m, hE, hS, p⟩ => by
    show tv g W d.1 σ H fun x H1 => tv g W d.2 σ H1 fun y H2 => tPairs (ds.map fun d => (tv g W d.1, tv g W d.2)) σ H2 fun ps H3 => Q ((x, y) :: ps) H3
    refine tr_bind (f := fun (x : PV) (ρ : EnP) (S1 : Sto) => (d.2 ρ S1).bind fun y S2 => (dPairs ds ρ S2).bind fun zs S3 => Res.ok ((x, y) :: zs) S3) hE hS p fun x S1 m1 H1 v s1 hE1 hS1 hr1 p1 => ?_
    refine tr_bind (f := fun (y : PV) (ρ : EnP) (S2 : Sto) => (dPairs ds ρ S2).bind fun zs S3 => Res.ok ((x, y) :: zs) S3) hE1 hS1 p1 fun y S2 m2 H2 u s2 hE2 hS2 hr2 p2 => ?_
    refine pairs_run ds σ H2 _ ⟨ρ, S2, m2, hE2, hS2, ?_⟩
    cases q : dPairs ds ρ S2 with
    | ok zs S3 =>
      rw [q] at p2
      exact fun m3 H3 ps s3 hS3 hr3 => p2 m3 H3 ((v, u) :: ps) s3 hS3 ⟨(v, u), ps, rfl, (hr1.step s2).step s3, hr2.step s3, hr3⟩
    | exc c fs S3 =>
      rw [q] at p2
      exact p2
    | bad => rw [q] at p2; exact p2.elim
def keysT : List (PV × PV) → Option (List (List Int))
  | [] => some []
  | (x, .bl true) :: r => match keyT x, keysT r with
    | some k, some ks => some (k :: ks)
    | _, _ => none
  | _ => none
theorem keysT_rep {g : Gm} {m : Mm} {H : Hp} : ∀ {zs : List (PV × PV)} {ps : List (V × V)} {ks : List (List Int)}, keysT zs = some ks → RepPs g m H zs ps → ∃ ws : List (List Key × Addr × V), ps = ws.map (fun z => (V.ref z.2.1, z.2.2)) ∧ (∀ z ∈ ws, H z.2.1 = some (.tup (z.1.map kV))) ∧ ws.map (fun z => (z.1, z.2.2)) = ks.map kvT ∧ ws.length = zs.length
  | [], ps, ks, e, r => by
    cases e
    have r : ps = [] := r
    subst r
    exact ⟨[], rfl, fun _ h => absurd h (by simp), rfl, rfl⟩
  | (x, y) :: zs, ps, ks, e, r => by
    obtain ⟨p, qs, rfl, h1, h2, h3⟩ := r
    cases y with
    | bl b =>
      cases b with
      | true =>
        simp only [keysT] at e
        cases q1 : keyT x with
        | none => rw [q1] at e; cases e
        | some k =>
          cases q2 : keysT zs with
          | none => rw [q1, q2] at e; cases e
          | some l =>
            rw [q1, q2] at e
            cases e
            obtain ⟨ws, e1, e2, e3, e4⟩ := keysT_rep q2 h3
            obtain ⟨b, f1, f2⟩ := keyT_rep q1 h1
            obtain ⟨p1, p2⟩ := p
            have f1 : p1 = .ref b := f1
            have f3 : p2 = .bl true := rep_bl h2
            subst f1 f3
            refine ⟨(k.map Sum.inl, b, .bl true) :: ws, by rw [List.map_cons, ← e1], fun z hz => ?_, by rw [List.map_cons, List.map_cons, e3]; rfl, by simp [e4]⟩
            rcases List.mem_cons.mp hz with rfl | hz
            · exact f2
            · exact e2 z hz
      | false => cases e
    | _ => cases e
/-- an untracked dict comes to the store -/
theorem emw_adopt {m : Mm} {H : Hp} {p : Addr} {k0 k1 : List (List Key × V)} (hp : H p = some (.dT k0)) : Emw m H (m.push p) (upd H p (.dT k1)) := by
  have ne : ∀ a o, H a = some o → (∀ k, o ≠ .dT k) → a ≠ p := fun a o e n z => by
    rw [z, hp] at e
    exact n _ (Option.some.inj e).symm
  refine ⟨fun n a e => ?_, fun a o n e nt nd => ?_, fun a xs e => ?_, fun a o u e nd => ?_⟩
  · rw [List.getElem?_append_left (List.getElem?_eq_some_iff.mp e).1]; exact e
  · have na := ne a o e nd
    refine ⟨⟨fun q => ?_, n.2⟩, by rw [upd_ne na]; exact e⟩
    rcases List.mem_append.mp q with z | z
    · exact n.1 z
    · exact na (List.mem_singleton.mp z)
  · rw [upd_ne (ne a _ e (fun k z => by cases z))]; exact e
  · rw [upd_ne (ne a _ e (fun k z => by cases z))]; exact e
theorem RelS.adopt {g : Gm} {m : Mm} {S : Sto} {H : Hp} {p : Addr} {k0 : List (List Key × V)} {ks : List (List Int)} (h : RelS g m S H) (n : m.no p) (hp : H p = some (.dT k0)) : RelS g (m.push p) (S ++ [SO.dT ks]) (upd H p (.dT (ks.map kvT))) := by
  have em := emw_adopt (m := m) (k1 := ks.map kvT) hp
  refine ⟨by simp [h.len], ?_, fun a ha => ⟨fun q => ?_, ?_⟩, fun i o e => ?_, tabs_writeO (.inr (.inl ⟨_, rfl⟩)) hp h.tab⟩
  · rw [List.nodup_append]
    refine ⟨h.nd, by simp, fun a ha b hb q => ?_⟩
    rw [List.mem_singleton.mp hb] at q
    exact n.1 (by rw [← q]; exact ha)
  · rcases List.mem_append.mp q with z | z
    · exact (h.exs a ha).1 z
    · exact n.2 (by rw [← List.mem_singleton.mp z]; exact ha)
  · obtain ⟨u, e, t⟩ := (h.exs a ha).2
    exact ⟨u, by rw [upd_ne (fun z : a = p => n.2 (by rw [← z]; exact ha))]; exact e, t⟩
  · by_cases hn : i < S.length
    · rw [List.getElem?_append_left hn] at e
      obtain ⟨a, u, e1, e2, e3⟩ := h.at_ i o e
      exact ⟨a, u, em.get i a e1, by rw [upd_ne (fun z : a = p => n.1 (by rw [← z]; exact List.mem_of_getElem? e1))]; exact e2, RSO.emw em e3⟩
    · rw [List.getElem?_append_right (by omega)] at e
      have hz : i - S.length = 0 := by
        have z := (List.getElem?_eq_some_iff.mp e).1
        simp at z; omega
      rw [hz] at e
      cases e
      refine ⟨p, _, ?_, upd_same, rfl⟩
      rw [List.getElem?_append_right (by rw [h.len]; omega), h.len, hz]
      rfl
theorem step_adopt {m m2 : Mm} {H H2 : Hp} {p : Addr} {o u : HO} (hp : H p = none) (no : NT o) (st : Step m (upd H p o) m2 H2) : Step m H (m2.push p) (upd H2 p u) := by
  obtain ⟨l, e⟩ := st.pre
  have nil : ∀ a, Nil (upd H p o) a → Nil H a := fun a z q eq nt => by
    have na : a ≠ p := ne_of_none eq hp
    exact z q (by rw [upd_ne na]; exact eq) nt
  refine ⟨⟨l ++ [p], by show m2.ix ++ [p] = _; rw [e, List.append_assoc]⟩, st.exo, fun a h1 h2 h3 => nil a (st.exn a h1 h2 h3), fun a h1 h2 => ?_, fun a q n eq nt => ?_, fun a xs eq => ?_, fun a q u' eq => ?_⟩
  · rcases List.mem_append.mp h1 with z | z
    · exact nil a (st.new a z h2)
    · rw [List.mem_singleton.mp z]; exact nil_of hp
  · have na : a ≠ p := ne_of_none eq hp
    rw [upd_ne na]
    exact st.keep a q n (by rw [upd_ne na]; exact eq) nt
  · have na : a ≠ p := ne_of_none eq hp
    rw [upd_ne na]
    exact st.tup a xs (by rw [upd_ne na]; exact eq)
  · have na : a ≠ p := ne_of_none eq hp
    rw [upd_ne na]
    exact st.frz a q u' (by rw [upd_ne na]; exact eq)
def dDispT (ds : List ((EnP → Sto → Res PV) × (EnP → Sto → Res PV))) : EnP → Sto → Res PV := fun ρ S => (dPairs ds ρ S).bind fun zs S1 => match keysT zs with
  | some ks => if zs.length ≤ 15 then .ok (.ref S1.length) (S1 ++ [SO.dT (putsT [] ks)]) else .bad
  | none => .bad
section
variable {X : Cx} {T : Tb} {W : WX} {pos : Pos} {keys : List (Option Expr)} {values : List Expr} {ds : List ((EnP → Sto → Res PV) × (EnP → Sto → Res PV))}
theorem nt_dT {k : List (List Key × V)} : NT (.dT k) := fun ps q => by cases q
theorem ce_dispT (hu : X.A.units + 65 < cLine) (h : PPs X pos keys values (ds.map fun d => (tv (gm X T) W d.1, tv (gm X T) W d.2))) (hall : keys.all (·.isSome) = true := by rfl) (hl : keys.length = values.length := by rfl) (h0 : keys ≠ [] := by simp)
    (h15 : keys.length ≤ 15 := by decide) : CE X T W (.Dict keys values pos) (dDispT ds) :=
  pe_imp (pe_dispT hu h hall hl h0 h15) fun σ H Q ⟨ρ, S, m, hE, hS, p⟩ => fun p0 hp => by
    have s0 : Step m H m (upd H p0 (.dT [])) := step_new hp
    refine pairs_run ds σ _ _ ⟨ρ, S, m, hE.step s0, hS.new hp, ?_⟩
    cases q : dPairs ds ρ S with
    | ok zs S1 =>
      have p1 : PostV (gm X T) W σ m H Q (match keysT zs with | some ks => if zs.length ≤ 15 then Res.ok (.ref S1.length) (S1 ++ [SO.dT (putsT [] ks)]) else .bad | none => .bad) := by
        have := p
        unfold dDispT at this
        rw [q] at this
        exact this
      intro m2 H2 ps st hS2 hr
      cases qk : keysT zs with
      | none => rw [qk] at p1; exact p1.elim
      | some ks =>
        rw [qk] at p1
        by_cases l15 : zs.length ≤ 15
        · have p1 : PostV (gm X T) W σ m H Q (if zs.length ≤ 15 then Res.ok (.ref S1.length) (S1 ++ [SO.dT (putsT [] ks)]) else .bad) := p1
          rw [if_pos l15] at p1
          have nm : p0 ∉ m.ix := (hS.fresh hp).1
          have nm2 : p0 ∉ m.ex := (hS.fresh hp).2
          have e0 : upd H p0 (.dT []) p0 = some (.dT []) := upd_same
          have h2 : H2 p0 = some (.dT []) := st.keep p0 _ nm e0 nt_dT
          have no2 : m2.no p0 := st.no ⟨nm, nm2⟩ e0 nt_dT
          obtain ⟨ws, e1, e2, e3, e4⟩ := keysT_rep qk hr
          refine ⟨h2, ws, e1, e2, by omega, ?_⟩
          have pi : (putsT [] ks).map kvT = mergeT [] (ks.map kvT) := putsT_is ks []
          rw [e3, ← pi]
          refine p1 (m2.push p0) _ _ (step_adopt hp nt_dT st) (hS2.adopt no2 h2) ?_
          show Rep _ _ _ (.ref S1.length) _
          unfold Rep
          exact ⟨p0, by rw [List.getElem?_append_right (by rw [hS2.len]; omega), hS2.len]; simp, rfl⟩
        · have p1 : PostV (gm X T) W σ m H Q (if zs.length ≤ 15 then Res.ok (.ref S1.length) (S1 ++ [SO.dT (putsT [] ks)]) else .bad) := p1
          rw [if_neg l15] at p1
          exact p1.elim
    | exc c fs S1 =>
      have p1 : PostV (gm X T) W σ m H Q (.exc c fs S1) := by
        have := p
        unfold dDispT at this
        rw [q] at this
        exact this
      exact PostR.step (r := Res.exc c fs S1) (Q := Q) (R := fun m' H' => Rep (gm X T) m' H') s0 p1
    | bad =>
      have := p
      unfold dDispT at this
      rw [q] at this
      exact this.elim
end
end Mi
end
section
set_option Elab.async false
set_option linter.all false
set_option maxRecDepth 100000
set_option maxHeartbeats 2000000
namespace Mi
open PySem PySem.Spec PyProof.Rows L2
/-! ### d.update({..}) -/
def updT (n j : Nat) (S : Sto) : Res PV := match S[n]?, S[j]? with
  | some (SO.dT (k :: ks)), some (SO.dT more) => if n ≠ j ∧ (k :: ks).length + more.length ≤ lim then .ok .non (S.set n (SO.dT (putsT (k :: ks) more))) else .bad
  | _, _ => .bad
def upd1 (n : Nat) (S : Sto) : List PV → Res PV
  | [.ref j] => updT n j S
  | _ => .bad
def dUpd (d : EnP → Sto → Res PV) (dl : EnP → Sto → Res (List PV)) : EnP → Sto → Res PV := fun ρ S => (d ρ S).bind fun x S1 => match x with
  | .ref n => (match S1[n]? with
    | some (SO.dT _) => (dl ρ S1).bind fun ys S2 => upd1 n S2 ys
    | _ => .bad)
  | _ => .bad
theorem type_dict_update : typeOf (.builtin "dict.update") = pure (.type "method_descriptor") := by show builtinType "dict.update" = _; first | rfl | kernel_rfl
theorem dct_rep {g : Gm} {m : Mm} {S : Sto} {H : Hp} {n : Nat} {v : V} {ks : List (List Int)} (hS : RelS g m S H) (r : Rep g m H (.ref n) v) (e : S[n]? = some (SO.dT ks)) : ∃ a, m.ix[n]? = some a ∧ v = .ref a ∧ H a = some (.dT (ks.map kvT)) := by
  obtain ⟨a, u, f1, f2, f3⟩ := hS.at_ n _ e
  have f3 : u = .dT (ks.map kvT) := f3
  subst f3
  unfold Rep at r
  obtain ⟨b, e1, e2⟩ := r
  rw [f1] at e1; cases e1
  exact ⟨a, f1, e2, f2⟩
section
variable {X : Cx} {T : Tb} {W : WX} {o e : Expr} {es : List Expr} {d : EnP → Sto → Res PV} {dl : EnP → Sto → Res (List PV)} {apos cpos : Pos}
theorem ce_upd (hu : X.A.units + 65 < cLine) (ho : CE X T W o d) (ha : CA X T W (e :: es) dl)
    (hbase : attributeBase o "update" X.env (eval o X.env) = eval o X.env := by rfl)
    (hfew : ((backTo cpos (starEach (e :: es) X.env)).all (fun x => !x.1) && (backToKw cpos (keywordEach [] X.env)).all (fun x => x.1.isSome)
      && decide ((e :: es).length + ([] : List Keyword).length + (if ([] : List Keyword).isEmpty then 0 else 1) < 30)) = true := by rfl)
    (hline : (apos.endLine == cpos.line) = true := by rfl) (hs : starEach (e :: es) X.env = (false, eval e X.env) :: starEach es X.env := by rfl) (hplain : (backTo cpos (starEach es X.env)).any (·.1) = false := by rfl) :
    CE X T W (.Call (.Attribute o "update" apos) (e :: es) [] cpos) (dUpd d dl) :=
  pe_imp (pe_bm PySem.F.plainAttrs_dict PySem.F.slot_dict_update type_dict_update (mt_updT hu) ho ha hbase hfew hline hs hplain) fun σ H Q ⟨ρ, S, m, hE, hS, p⟩ =>
    tr_bind (f := fun (x : PV) (ρ : EnP) (S1 : Sto) => match x with | .ref n => (match S1[n]? with | some (SO.dT _) => (dl ρ S1).bind fun ys S2 => upd1 n S2 ys | _ => .bad) | _ => .bad) hE hS p fun x S1 m1 H1 w s1 hE1 hS1 hr1 p1 => by
      cases x with
      | ref n =>
        have p1 : PostV (gm X T) W σ m1 H1 Q (match S1[n]? with | some (SO.dT _) => (dl ρ S1).bind fun ys S2 => upd1 n S2 ys | _ => .bad) := p1
        split at p1
        case h_2 => exact p1.elim
        rename_i ks0 e0
        obtain ⟨a, e1, rfl, f2⟩ := dct_rep hS1 hr1 e0
        refine ⟨?_, tr_bind (f := fun (ys : List PV) (ρ : EnP) (S2 : Sto) => upd1 n S2 ys) hE1 hS1 p1 fun ys S2 m2 H2 ws s2 hE2 hS2 hr2 p2 => ?_⟩
        · exact .inr (.inr (.inl ⟨rfl, .inr ⟨_, f2⟩⟩))
        unfold upd1 at p2
        split at p2
        · rename_i j
          obtain ⟨u, rfl, ru⟩ := one_rep hr2
          unfold updT at p2
          split at p2
          · rename_i k ks more e3 e4
            split at p2
            · rename_i hc
              obtain ⟨a', g1, g2, g3⟩ := dct_rep hS2 (hr1.step s2) e3
              cases g2
              obtain ⟨b, g4, g5, g6⟩ := dct_rep hS2 ru e4
              cases g5
              have ne : a ≠ b := fun z => by
                rw [← z] at g4
                have l1 := (List.getElem?_eq_some_iff.mp g1).1
                exact hc.1 ((List.getElem?_inj l1 hS2.nd).mp (g1.trans g4.symm))
              have hn2 : n < S2.length := (List.getElem?_eq_some_iff.mp e3).1
              refine ⟨a, b, _, _, rfl, rfl, ne, g3, g6, by simp, by rw [List.length_map, List.length_map]; exact lim_line hc.2, ?_⟩
              rw [← putsT_is]
              exact p2 m2 _ _ (step_writeO (.inr ⟨_, rfl⟩) (List.mem_of_getElem? g1) g3) (hS2.writeO (.inr ⟨_, rfl⟩) g1 hn2 g3 rfl) mk_non
            · exact p2.elim
          · exact p2.elim
        · exact p2.elim
      | _ => exact p1.elim
end
/-! ### [.. for x in d] -/
def iDk (i : Nat) : EnP → Sto → Res (List PV) := fun ρ S => match ρ[i]? with
  | some (some (.ref n)) => (match S[n]? with
    | some (SO.fz ks) => .ok (ks.map fun k => .tup (k.map .int)) S
    | _ => .bad)
  | _ => .bad
theorem ints_repL {g : Gm} {m : Mm} {H : Hp} : ∀ k : List Int, RepL g m H (k.map .int) ((k.map (Sum.inl : Int → Key)).map kV)
  | [] => RepL.nil
  | i :: k => RepL.cons (mk_int i) (ints_repL k)
theorem itOk_dk {g : Gm} {m : Mm} {H : Hp} {d : Addr} {o : Obj} {ks : List (List Int)} (h : H d = some (.frz o (.dT (ks.map kvT)))) : ItOk g (Itkt d o (ks.map kvT)) (ks.map fun k => PV.tup (k.map .int)) m H := by
  refine ⟨fun m1 H1 S i y st hS ey => ?_, fun m1 H1 S i st hS hl => ?_⟩
  · rw [List.getElem?_map] at ey
    have hd := st.frz d o _ h
    cases q : ks[i]? with
    | none => rw [q] at ey; cases ey
    | some k =>
      rw [q] at ey
      cases ey
      have hi : i < ks.length := (List.getElem?_eq_some_iff.mp q).1
      refine ⟨⟨hd, by rw [List.length_map]; exact hi⟩, fun v H' ⟨eH, k', v', a, e1, e2, e3⟩ => ?_⟩
      subst eH
      rw [List.getElem?_map, q] at e1
      cases e1
      refine ⟨Step.refl _ _, hS, ?_⟩
      unfold Rep
      exact ⟨a, _, e2, e3, ints_repL k⟩
  · rw [List.length_map] at hl
    exact ⟨st.frz d o _ h, by rw [List.length_map]; omega⟩
theorem ci_dk {X : Cx} {T : Tb} {W : WX} {tg : Expr} {x : Str} {pos : Pos} (i : Nat) (hN : X.N[i]? = some x := by rfl) (hv : Vis X.env.scope x := by first | exact Or.inl rfl | exact Or.inr (Or.inl rfl) | exact Or.inr (Or.inr rfl)) (hd : (x == ("__debug__" : Str)) = false := by decide)
    (hcd : (x == ("__classdict__" : Str)) = false := by decide) : CI X T W tg (.Name x pos) (iDk i) :=
  pi_imp (pi_keys (pe_var hN hv hd hcd)) fun σ H R ⟨ρ, S, m, hE, hS, p⟩ => by
    unfold iDk at p
    split at p
    case h_2 => exact p.elim
    rename_i n en
    split at p
    case h_2 => exact p.elim
    rename_i ks ek
    obtain ⟨w, ew, rw_⟩ := hE.at_ i _ en
    obtain ⟨a, u, f1, f2, o, f3⟩ := hS.at_ n _ ek
    subst f3
    unfold Rep at rw_
    obtain ⟨b, e1, rfl⟩ := rw_
    rw [f1] at e1; cases e1
    exact ⟨.ref a, ew, a, o, rfl, .inr ⟨_, f2, p m H _ (Step.refl _ _) hS (itOk_dk f2)⟩⟩
def dLcD (i : Nat) (dc : EnP → Sto → Res PV) : EnP → Sto → Res PV := fun ρ S => match ρ[i]? with
  | some (some (.ref n)) => (match S[n]? with
    | some (SO.dT ks) => (match dc ρ (S.set n (SO.fz ks)) with
      | .ok v S2 => (match S2[n]? with
        | some (SO.fz ks2) => if ks2 = ks then .ok v (S2.set n (SO.dT ks)) else .bad
        | _ => .bad)
      | _ => .bad)
    | _ => .bad)
  | _ => .bad
/-- the dict is free again -/
theorem emw_free {m : Mm} {H : Hp} {d : Addr} {o : Obj} {k k1 : List (List Key × V)} (hd : d ∈ m.ix) (h : H d = some (.frz o (.dT k))) : Emw m H m (upd H d (.dT k1)) := by
  refine ⟨fun n a e => e, fun a q n e nt nd => ?_, fun a xs e => ?_, fun a q u e nd => ?_⟩
  · exact ⟨n, by rw [upd_ne (fun z : a = d => n.1 (by rw [z]; exact hd))]; exact e⟩
  · rw [upd_ne (ne_of e h (fun z => by cases z))]; exact e
  · rw [upd_ne (fun z : a = d => by rw [z, h] at e; cases e; exact nd _ rfl)]; exact e
theorem RelS.free {g : Gm} {m : Mm} {S : Sto} {H : Hp} {n : Nat} {d : Addr} {o : Obj} {k : List (List Key × V)} {ks : List (List Int)} (hS : RelS g m S H) (hn : m.ix[n]? = some d) (h : H d = some (.frz o (.dT k))) (hs : n < S.length) : RelS g m (S.set n (SO.dT ks)) (upd H d (.dT (ks.map kvT))) := by
  have ha : d ∈ m.ix := List.mem_of_getElem? hn
  have em := emw_free (k1 := ks.map kvT) ha h
  refine ⟨by rw [List.length_set]; exact hS.len, hS.nd, fun b hx => ⟨(hS.exs b hx).1, ?_⟩, fun j q e => ?_, tabs_writeO (.inr (.inr ⟨_, _, rfl⟩)) h hS.tab⟩
  · obtain ⟨u, e, t⟩ := (hS.exs b hx).2
    exact ⟨u, by rw [upd_ne (fun z : b = d => (hS.exs b hx).1 (by rw [z]; exact ha))]; exact e, t⟩
  · by_cases hk : n = j
    · subst hk
      rw [List.getElem?_set_self hs] at e
      cases e
      exact ⟨d, _, hn, upd_same, rfl⟩
    · rw [List.getElem?_set_ne hk] at e
      obtain ⟨b, w, e1, e2, e3⟩ := hS.at_ j q e
      have nb : b ≠ d := fun z => by
        rw [z] at e1
        have l1 := (List.getElem?_eq_some_iff.mp hn).1
        exact hk ((List.getElem?_inj l1 hS.nd).mp (hn.trans e1.symm))
      exact ⟨b, w, e1, by rw [upd_ne nb]; exact e2, RSO.emw em e3⟩
theorem step_free {m m2 : Mm} {H H2 : Hp} {d : Addr} {o : Obj} {k : List (List Key × V)} {u : HO} (hd : d ∈ m.ix) (h : H d = some (.dT k)) (st : Step m (upd H d (.frz o (.dT k))) m2 H2) : Step m H m2 (upd H2 d u) := by
  have nil : ∀ a, Nil (upd H d (.frz o (.dT k))) a → Nil H a := fun a z q eq nt => by
    by_cases e : a = d
    · subst e
      exact z _ upd_same (fun ps q => by cases q)
    · exact z q (by rw [upd_ne e]; exact eq) nt
  refine ⟨st.pre, st.exo, fun a h1 h2 h3 => nil a (st.exn a h1 h2 h3), fun a h1 h2 => nil a (st.new a h1 h2), fun a q n eq nt => ?_, fun a xs eq => ?_, fun a q u' eq => ?_⟩
  · have na : a ≠ d := fun z => n (by rw [z]; exact hd)
    rw [upd_ne na]
    exact st.keep a q n (by rw [upd_ne na]; exact eq) nt
  · have na : a ≠ d := ne_of eq h (fun z => by cases z)
    rw [upd_ne na]
    exact st.tup a xs (by rw [upd_ne na]; exact eq)
  · have na : a ≠ d := ne_of eq h (fun z => by cases z)
    rw [upd_ne na]
    exact st.frz a q u' (by rw [upd_ne na]; exact eq)
theorem ce_lcD {X : Cx} {T : Tb} {W : WX} {e : Expr} {dc : EnP → Sto → Res PV} (i : Nat) (h : CE X T W e dc) : CE X T W e (dLcD i dc) :=
  pe_imp (pe_lock h) fun σ H Q ⟨ρ, S, m, hE, hS, p⟩ => by
    unfold dLcD at p
    split at p
    case h_2 => exact p.elim
    rename_i n en
    split at p
    case h_2 => exact p.elim
    rename_i ks ek
    obtain ⟨w, ew, rw_⟩ := hE.at_ i _ en
    obtain ⟨a, f1, _, f2⟩ := dct_rep hS rw_ ek
    have ha : a ∈ m.ix := List.mem_of_getElem? f1
    have hs : n < S.length := (List.getElem?_eq_some_iff.mp ek).1
    refine ⟨a, _, f2, True.intro, fun od => ?_⟩
    have st0 : Step m H m (upd H a (.frz od (.dT (ks.map kvT)))) := step_writeO (.inr ⟨_, rfl⟩) ha f2
    refine ⟨ρ, S.set n (SO.fz ks), m, hE.step st0, hS.writeO (.inr ⟨_, rfl⟩) f1 hs f2 ⟨od, rfl⟩, ?_⟩
    cases q : dc ρ (S.set n (SO.fz ks)) with
    | ok v S2 =>
      simp only [q] at p
      intro m2 H2 w2 st hS2 hr
      have fz : H2 a = some (.frz od (.dT (ks.map kvT))) := st.frz a od _ upd_same
      refine ⟨fz, ?_⟩
      split at p
      case h_2 => exact p.elim
      rename_i ks2 e2
      by_cases c : ks2 = ks
      · rw [if_pos c] at p
        have f1' : m2.ix[n]? = some a := st.get f1
        have hs2 : n < S2.length := (List.getElem?_eq_some_iff.mp e2).1
        exact p m2 _ w2 (step_free ha f2 st) (hS2.free f1' fz hs2) (Rep.emw (emw_free (List.mem_of_getElem? f1') fz) _ _ hr)
      · rw [if_neg c] at p; exact p.elim
    | exc c fs S2 => simp only [q] at p; exact p.elim
    | bad => simp only [q] at p; exact p.elim
end Mi
end
section
set_option Elab.async false
set_option linter.all false
set_option maxRecDepth 100000
set_option maxHeartbeats 2000000
namespace Mi
open PySem PySem.Spec PyProof.Rows L2
/-! ### sorted ints -/
def sortI (ns : List Int) : List Int := ns.mergeSort (fun a b => decide (a ≤ b))
theorem sortI_perm (ns : List Int) : (sortI ns).Perm ns := List.mergeSort_perm ns _
theorem sortI_sorted (ns : List Int) : (sortI ns).Pairwise (· ≤ ·) := by
  have h := List.pairwise_mergeSort (le := fun a b : Int => decide (a ≤ b)) (by intro a b c h1 h2; simp at *; omega) (by intro a b; simp; omega) ns
  exact h.imp (fun h => by simpa using h)
theorem sorted_uniq : ∀ {a b : List Int}, a.Perm b → a.Pairwise (· ≤ ·) → b.Pairwise (· ≤ ·) → a = b
  | [], b, p, _, _ => (List.nil_perm.mp p).symm
  | x :: xs, [], p, _, _ => by have := p.length_eq; simp at this
  | x :: xs, y :: ys, p, ha, hb => by
    rw [List.pairwise_cons] at ha hb
    have e : x = y := by
      have h1 : x ∈ y :: ys := p.mem_iff.mp List.mem_cons_self
      have h2 : y ∈ x :: xs := p.mem_iff.mpr List.mem_cons_self
      rcases List.mem_cons.mp h1 with q | q
      · exact q
      · rcases List.mem_cons.mp h2 with r | r
        · exact r.symm
        · have := hb.1 x q
          have := ha.1 y r
          omega
    subst e
    rw [sorted_uniq (List.Perm.cons_inv p) ha.2 hb.2]
def fSorted : List PV → Sto → Res PV
  | [x], S => (match lstOf x S with
    | some xs => (match intL xs with
      | some ns => mkLst false ((sortI ns).map .int) S
      | none => .bad)
    | none => .bad)
  | _, _ => .bad
theorem map_kV : ∀ k : List Int, (k.map (Sum.inl : Int → Key)).map kV = k.map V.int
  | [] => rfl
  | x :: xs => by rw [List.map_cons, List.map_cons, List.map_cons, map_kV xs]; rfl
theorem map_repL {g : Gm} {m : Mm} {H : Hp} (k : List Int) : RepL g m H (k.map .int) (k.map V.int) := by
  rw [← map_kV]
  exact ints_repL k
theorem sl_sorted {X : Cx} {T : Tb} : SndL (gm X T) (rSortedI X.K) fSorted := by
  intro W σ m S H xs vs Q hS r p
  unfold fSorted at p
  split at p
  · obtain ⟨v, rfl, rx⟩ := one_rep r
    split at p
    · rename_i ys e
      split at p
      · rename_i ns e2
        obtain ⟨a, ws, rfl, h1, h2⟩ := lstOf_rep hS rx e
        have ew := intL_rep e2 h2
        rw [map_kV] at ew
        subst ew
        refine ⟨a, ns, rfl, h1, fun ns' q hp hs hq => ?_⟩
        have en : ns' = sortI ns := sorted_uniq (hp.trans (sortI_perm ns).symm) hs (sortI_sorted ns)
        subst en
        exact (new_lst (mt := false) (W := W) (σ := σ) (fun h => nomatch h) hS (map_repL (sortI ns)) p).2 q hq
      · exact p.elim
    · exact p.elim
  · exact p.elim
/-- a body of which nothing is said -/
theorem css_bad {X : Cx} {T : Tb} {W : WX} {st : List Stmt} : CSs X T W st (fun _ _ => .bad) := ⟨fun pins s σ H D I ⟨_, _, _, _, _, p⟩ => p.elim⟩
theorem cs_bad {X : Cx} {T : Tb} {W : WX} {st : Stmt} : CS X T W st (fun _ _ => .bad) := ⟨fun pins s σ H D I ⟨_, _, _, _, _, p⟩ => p.elim⟩
end Mi
end
section
set_option Elab.async false
set_option linter.all false
set_option maxRecDepth 100000
set_option maxHeartbeats 2000000
namespace Mi
open PySem PySem.Spec PyProof.Rows L2
/-! ### {"k": (1, 2), ..}[x] : a written dict of tuples of ints, looked into at once -/
def tInts (ns : List Int) : TA := fun σ H Q => Q (ns.map V.int) H
theorem pa_ints_nil {X : Cx} : PA X [] (tInts []) := pa_imp pa_nil fun σ H Q q => q
theorem pa_ints_cons {X : Cx} {es : List Expr} {ns : List Int} {i : Int} {j : Nat} {p : Pos} (h : PA X es (tInts ns)) : PA X (.Constant (.int i) j p :: es) (tInts (i :: ns)) := pa_imp (pa_cons pe_int h) fun σ H Q q => q
def tTI (ns : List Int) : TE := fun σ H Q => ∀ t, H t = none → Q (.ref t) (upd H t (.tup (ns.map V.int)))
theorem pe_ti {X : Cx} {es : List Expr} {ns : List Int} {k : Nat} {pos : Pos} (h : PA X es (tInts ns)) (hl : ns.length ≤ 15 := by decide) : PE X (.Tuple es k pos) (tTI ns) :=
  pe_imp (pe_tup h) fun σ H Q q => ⟨by rw [List.length_map, sizeLine_eq]; omega, q⟩
def entT (ents : List (Str × List Int)) : List (TE × TE) := ents.map fun e => (tC (.str e.1), tTI e.2)
theorem ents_nil {X : Cx} {pos : Pos} : PPs X pos [] [] (entT []) := pps_nil
theorem ents_cons {X : Cx} {pos : Pos} {ks : List (Option Expr)} {vs : List Expr} {x : Str} {j : Nat} {p : Pos} {v : Expr} {ns : List Int} {r : List (Str × List Int)} (h : PE X v (tTI ns)) (hr : PPs X pos ks vs (entT r)) :
    PPs X pos (some (.Constant (.str x) j p) :: ks) (v :: vs) (entT ((x, ns) :: r)) := pps_cons pe_str h hr
def EntR (G : Hp) : List (Str × List Int) → List (Key × V) → Prop
  | [], kvs => kvs = []
  | e :: es, kvs => ∃ t r, kvs = (.inr e.1, .ref t) :: r ∧ G t = some (.tup (e.2.map V.int)) ∧ EntR G es r
theorem upd_comm {H : Hp} {a b : Addr} {u v : HO} (h : a ≠ b) : upd (upd H a u) b v = upd (upd H b v) a u := by
  funext c
  by_cases h1 : c = a
  · subst h1
    rw [upd_ne h, upd_same, upd_same]
  · by_cases h2 : c = b
    · subst h2
      rw [upd_same, upd_ne h1, upd_same]
    · rw [upd_ne h2, upd_ne h1, upd_ne h1, upd_ne h2]
theorem ents_run {g : Gm} {m : Mm} {S : Sto} {p : Addr} : ∀ (ents : List (Str × List Int)) (σ : L2.St) (G : Hp) (K : List (V × V) → Hp → Prop), G p = none → RelS g m S G →
    (∀ G' kvs, G' p = none → RelS g m S G' → Step m G m G' → EntR G' ents kvs → K (kvs.map fun kv => (kV kv.1, kv.2)) (upd G' p (.dK []))) → tPairs (entT ents) σ (upd G p (.dK [])) K
  | [], σ, G, K, hp, hS, k => k G [] hp hS (Step.refl _ _) rfl
  | e :: es, σ, G, K, hp, hS, k => by
    show ∀ t, upd G p (.dK []) t = none → tPairs (entT es) σ (upd (upd G p (.dK [])) t (.tup (e.2.map V.int))) fun ps H3 => K ((.str e.1, .ref t) :: ps) H3
    intro t ht
    have ne : t ≠ p := fun z => by rw [z, upd_same] at ht; cases ht
    rw [upd_ne ne] at ht
    rw [upd_comm (fun z => ne z.symm)]
    have st : Step m G m (upd G t (.tup (e.2.map V.int))) := step_new ht
    refine ents_run es σ (upd G t (.tup (e.2.map V.int))) _ (by rw [upd_ne (fun z => ne z.symm)]; exact hp) (hS.new ht) fun G' kvs hp' hS' st' er => ?_
    exact k G' ((.inr e.1, .ref t) :: kvs) hp' hS' (st.trans st') ⟨t, kvs, rfl, st'.tup t _ upd_same, er⟩
theorem mergeK_nodup : ∀ (more acc : List (Key × V)), (∀ kv ∈ acc, ∀ kw ∈ more, kv.1 ≠ kw.1) → (more.map (·.1)).Nodup → mergeK acc more = acc ++ more
  | [], acc, _, _ => by rw [List.append_nil]; rfl
  | k :: r, acc, hd, hn => by
    rw [List.map_cons, List.nodup_cons] at hn
    have h1 : putK acc k.1 k.2 = acc ++ [k] := by
      unfold putK
      rw [if_neg]
      intro z
      rw [List.any_eq_true] at z
      obtain ⟨kv, h, e⟩ := z
      exact hd kv h k List.mem_cons_self (by simpa using e)
    show mergeK (putK acc k.1 k.2) r = _
    rw [h1, mergeK_nodup r (acc ++ [k]) (fun kv h kw hw => ?_) hn.2, List.append_assoc]
    · rfl
    · rcases List.mem_append.mp h with q | q
      · exact hd kv q kw (List.mem_cons_of_mem _ hw)
      · rw [List.mem_singleton.mp q]
        exact fun z => hn.1 (by rw [z]; exact List.mem_map.mpr ⟨kw, hw, rfl⟩)
theorem entR_keys {G : Hp} : ∀ {ents : List (Str × List Int)} {kvs : List (Key × V)}, EntR G ents kvs → kvs.map (·.1) = ents.map (fun e => Sum.inr e.1) ∧ kvs.length = ents.length
  | [], kvs, h => by
    have h : kvs = [] := h
    subst h
    exact ⟨rfl, rfl⟩
  | e :: es, kvs, h => by
    obtain ⟨t, r, rfl, _, h3⟩ := h
    have ih := entR_keys h3
    exact ⟨by rw [List.map_cons, List.map_cons, ih.1], by rw [List.length_cons, List.length_cons, ih.2]⟩
def entGet (ents : List (Str × List Int)) (s : Str) : Option (List Int) := (ents.find? fun e => decide (e.1 = s)).map (·.2)
theorem entR_get {G : Hp} {s : Str} {ns : List Int} : ∀ {ents : List (Str × List Int)} {kvs : List (Key × V)}, EntR G ents kvs → entGet ents s = some ns → ∃ t, valV kvs (.inr s) = some (.ref t) ∧ G t = some (.tup (ns.map V.int))
  | [], kvs, h, e => by cases e
  | e :: es, kvs, h, q => by
    obtain ⟨t, r, rfl, h2, h3⟩ := h
    by_cases c : e.1 = s
    · have z : entGet (e :: es) s = some e.2 := by
        unfold entGet
        rw [List.find?_cons_of_pos (by simpa using c)]
        rfl
      rw [z] at q
      cases q
      refine ⟨t, ?_, h2⟩
      unfold valV
      rw [List.find?_cons_of_pos (by simpa using c)]
      rfl
    · have z : entGet (e :: es) s = entGet es s := by
        unfold entGet
        rw [List.find?_cons_of_neg (by simpa using c)]
      rw [z] at q
      obtain ⟨t', e1, e2⟩ := entR_get h3 q
      refine ⟨t', ?_, e2⟩
      unfold valV at e1 ⊢
      rw [List.find?_cons_of_neg (by simpa using c)]
      exact e1
def dGetS (ents : List (Str × List Int)) (dk : EnP → Sto → Res PV) : EnP → Sto → Res PV := fun ρ S => (dk ρ S).bind fun y S1 => match y with
  | .str s => (match entGet ents s with
    | some ns => .ok (.tup (ns.map .int)) S1
    | none => .bad)
  | _ => .bad
theorem ce_getS {X : Cx} {T : Tb} {W : WX} {keys : List (Option Expr)} {values : List Expr} {i : Expr} {p1 pos : Pos} {dk : EnP → Sto → Res PV} (ents : List (Str × List Int)) (hu : X.A.units + 65 < cLine) (h : PPs X p1 keys values (entT ents)) (hk : CE X T W i dk)
    (hall : keys.all (·.isSome) = true := by rfl) (hl : keys.length = values.length := by rfl) (h0 : keys ≠ [] := by (intro z; cases z)) (h15 : keys.length ≤ 15 := by decide) (he : ents.length ≤ 15 := by decide) (hn : (ents.map fun e => (Sum.inr e.1 : Key)).Nodup := by decide +kernel)
    (hs : NoSl i := by (intro _ _; rfl)) : CE X T W (.Subscript (.Dict keys values p1) i pos) (dGetS ents dk) :=
  pe_imp (pe_dget (show X.A.units + 1 < cLine by omega) (pe_disp h hall hl h0 h15) hk hs) fun σ H Q ⟨ρ, S, m, hE, hS, p⟩ => by
    show ∀ a, H a = none → tPairs (entT ents) σ (upd H a (.dK [])) _
    intro a ha
    refine ents_run ents σ H _ ha hS fun G kvs hp hS' st er => ?_
    have ek := entR_keys er
    have mk : mergeK [] kvs = kvs := by
      have := mergeK_nodup kvs [] (fun kv h => by cases h) (by rw [ek.1]; exact hn)
      simpa using this
    refine ⟨upd_same, kvs, rfl, by rw [ek.2]; exact he, ?_⟩
    rw [upd_two, mk]
    have st2 : Step m H m (upd G a (.dK kvs)) := st.trans (step_new hp)
    have hS2 : RelS (gm X T) m S (upd G a (.dK kvs)) := hS'.new hp
    have na : m.no a := hS'.fresh hp
    refine tr_bind (f := fun (y : PV) (_ : EnP) (S1 : Sto) => match y with
      | .str s => (match entGet ents s with
        | some ns => Res.ok (PV.tup (ns.map PV.int)) S1
        | none => .bad)
      | _ => .bad) (hE.step st2) hS2 (PostR.step st2 p) fun y S1 m1 H1 v s1 hE1 hS1 hr1 p1 => ?_
    cases y with
    | str s =>
      have ev := rep_str hr1
      subst ev
      cases q : entGet ents s with
      | none => simp only [q] at p1; exact p1.elim
      | some ns =>
        simp only [q] at p1
        obtain ⟨t, e1, e2⟩ := entR_get er q
        have hd : H1 a = some (.dK kvs) := s1.keep a _ na.1 upd_same (fun ps z => by cases z)
        have ta : t ≠ a := fun z => by rw [z, hp] at e2; cases e2
        have ht : H1 t = some (.tup (ns.map V.int)) := s1.tup t _ (by rw [upd_ne ta]; exact e2)
        have dg := DGet.k (H := H1) (a := a) (kvs := kvs) (k := .inr s) hd
        rw [e1] at dg
        refine ⟨a, .ref t, rfl, dg, p1 m1 H1 (.ref t) (Step.refl _ _) hS1 ?_⟩
        show Rep (gm X T) m1 H1 (.tup (ns.map .int)) (.ref t)
        unfold Rep
        exact ⟨t, ns.map V.int, rfl, ht, map_repL ns⟩
    | _ => exact p1.elim
end Mi
end
section
set_option Elab.async false
set_option linter.all false
set_option maxRecDepth 100000
set_option maxHeartbeats 2000000
namespace Mi
open PySem PySem.Spec PyProof.Rows L2
/-! ### d[k] = True, k a tuple of ints -/
def setIxT (x : PV) (ρ : EnP) (o i : PV) (S : Sto) : Res EnP := match x, o, keyT i with
  | .bl true, .ref n, some k => (match S[n]? with
    | some (SO.dT ks) => if ks.length < lim then .ok ρ (S.set n (SO.dT (putT ks k))) else .bad
    | _ => .bad)
  | _, _, _ => .bad
def gIxT (do_ di : EnP → Sto → Res PV) : DG := fun x ρ S => (do_ ρ S).bind fun o S1 => (di ρ S1).bind fun i S2 => setIxT x ρ o i S2
section
variable {X : Cx} {T : Tb} {W : WX} {o i : Expr} {do_ di : EnP → Sto → Res PV} {pos : Pos}
theorem cg_ixT (hu : X.A.units + 65 < cLine) (ho : CE X T W o do_) (hi : CE X T W i di)
    (ha : ∀ v, assign (.Subscript o i pos) X.env v = (do
      let ov ← holding [v] (eval o X.env)
      let iv ← holding [v, ov] (eval i X.env)
      standAt pos
      holding [v, ov, iv] (setItem ov iv v)
      release [v, ov, iv] []) := by intro _; rfl) : CG X T W (.Subscript o i pos) (gIxT do_ di) :=
  pg_imp (pg_sub ho hi (set_dict (show X.A.units + 1 < cLine by omega)) ha) fun v σ H Q ⟨x, ρ, S, m, hr, hE, hS, p⟩ =>
    tr_bind (R' := fun m' H' ρ' σ' => RelE (gm X T) m' H' ρ' σ') (f := fun (o : PV) (_ : EnP) (S1 : Sto) => (di ρ S1).bind fun i S2 => setIxT x ρ o i S2) hE hS p fun o S1 m1 H1 w s1 hE1 hS1 hr1 p1 =>
    tr_bind (R' := fun m' H' ρ' σ' => RelE (gm X T) m' H' ρ' σ') (f := fun (i : PV) (_ : EnP) (S2 : Sto) => setIxT x ρ o i S2) hE1 hS1 p1 fun i S2 m2 H2 w2 s2 hE2 hS2 hr2 p2 => by
      unfold setIxT at p2
      split at p2
      · rename_i n k ek
        split at p2
        · rename_i ks e
          split at p2
          · rename_i hl
            obtain ⟨b, rfl, hb⟩ := keyT_rep ek hr2
            obtain ⟨a, g1, rfl, g3⟩ := dct_rep hS2 (hr1.step s2) e
            have ev := rep_bl hr
            subst ev
            have hn2 : n < S2.length := (List.getElem?_eq_some_iff.mp e).1
            have hu2 : ((putT ks k).map kvT) = putK (ks.map kvT) (k.map Sum.inl) (.bl true) := putT_is ks k
            refine ⟨a, upd H2 a (.dT ((putT ks k).map kvT)), rfl, .inr ⟨ks.map kvT, k.map Sum.inl, b, g3, rfl, hb, by rw [List.length_map, sizeLine_eq]; exact hl, by rw [hu2]⟩, ?_⟩
            have st := step_writeO (m := m2) (u1 := .dT ((putT ks k).map kvT)) (.inr ⟨_, rfl⟩) (List.mem_of_getElem? g1) g3
            exact p2 m2 _ _ st (hS2.writeO (.inr ⟨_, rfl⟩) g1 hn2 g3 rfl) (hE2.step st)
          · exact p2.elim
        · exact p2.elim
      · exact p2.elim
end
end Mi
end
section
set_option Elab.async false
set_option linter.all false
set_option maxRecDepth 100000
set_option maxHeartbeats 2000000
namespace Mi
open PySem PySem.Spec PyProof.Rows L2
/-! ### raise C(x), C an own class whose __init__ keeps x -/
def spI (C : Addr) (f : Str) : Sp := fun vs G R _ => ∃ (a : Addr) (y : V), vs = [.ref a, y] ∧ G a = some (exo a C none) ∧ ∀ dx, G dx = none → dx ≠ a → R .non (upd (upd G dx (exd dx [(f, y)])) a (exo a C (some dx)))
/-- what an own class says whose errors have one field -/
structure EF (K : PySem.W.Frag) (mg : Str → Option Value) (x f : Str) (C : Addr) : Prop where
  at_ : mg x = some (.ref C)
  oex : OexC K C
  fld : PySem.W.findIn K (.ref C) f = some none
  ini : ∃ (fI : Addr) (q y : Str) (params : Arguments) (scope : Scope) (p1 p2 p3 p4 : Pos) (dV kV doc pm cdv ct oc : Value) (an od : Option Addr) (osl : Array (Option Value)),
    PySem.W.findIn K (.ref C) "__init__" = some (some (.ref fI)) ∧ PySem.W.typeIn K (.ref fI) = some (.type "function") ∧
    K.lookup fI = some ⟨oc, od, .func (PySem.W.fnOf "__init__" q params [.Assign [.Attribute (.Name "self" p1) f p2] (.Name y p3) p4] scope dV kV doc pm an cdv ct), osl⟩ ∧ PySem.W.codeIn K cdv q = true ∧ FnScope ["self", y] ["self", y] scope ∧
    (y == ("__debug__" : Str)) = false ∧ (y == ("__classdict__" : Str)) = false ∧ Vis scope "self" ∧ Vis scope y ∧
    (∀ us : List Value, us.length = 2 → bindArgs (PySem.W.fnOf "__init__" q params [.Assign [.Attribute (.Name "self" p1) f p2] (.Name y p3) p4] scope dV kV doc pm an cdv ct) ⟨us, []⟩ = pure ((["self", y] : List Str).zip us))
theorem passF {X : Cx} : Passes (L2.CX X.prog X.w) X (fun _ _ _ => False) := by
  intro pz σz G sz e s' J hc
  obtain ⟨_, _, _, _, _, _, _, _, _, _, _, _, hf⟩ := hc
  exact hf.elim
theorem oex_mk {K : PySem.W.Frag} {C : Addr} {nm q : Str} {N bs bm sn sub ab col dd k0 k1 k2 k3 k5} (c0 : K.lookup C = some (excClassObj nm q C N bs bm true sn sub ab col dd k0 k1 k2 k3 k5 "ValueError.__new__")) (c1 : PySem.HandSPX.refsVE bm = true)
    (c2 : PySem.W.findIn K (.ref C) "__setattr__" = some (some (.builtin "object.__setattr__"))) (c3 : PySem.W.subIn K (.ref C) (.type "BaseException") = some true) (c4 : PySem.W.typeIn K (.ref C) = some (.type "type")) (c5 : PySem.W.keepIn K (.ref C) = true) : OexC K C :=
  ⟨⟨nm, q, N, bs, bm, sn, sub, ab, col, dd, k0, k1, k2, k3, k5, c0, c1⟩, c2, c3, c4, c5⟩
abbrev EF1 (K : PySem.W.Frag) (mg : Str → Option Value) (x f : Str) : Prop := ∃ C, EF K mg x f C
theorem ef_mk {K : PySem.W.Frag} {mg : Str → Option Value} {h : Heap} {x f : Str} {C fI : Addr} {q y : Str} {params : Arguments} {scope : Scope} {p1 p2 p3 p4 : Pos} {dV kV doc pm cdv ct oc : Value} {an od : Option Addr} {osl : Array (Option Value)}
    (X : K.In h) (G : h.Ns mainGlobals mg) (a : PySem.W.nsIn K mainGlobals x = some (some (.ref C))) (ox : OexC K C) (fl : PySem.W.findIn K (.ref C) f = some none)
    (i1 : PySem.W.findIn K (.ref C) "__init__" = some (some (.ref fI))) (i2 : PySem.W.typeIn K (.ref fI) = some (.type "function"))
    (lk : K.lookup fI = some ⟨oc, od, .func (PySem.W.fnOf "__init__" q params [.Assign [.Attribute (.Name "self" p1) f p2] (.Name y p3) p4] scope dV kV doc pm an cdv ct), osl⟩) (cd : PySem.W.codeIn K cdv q = true) (Sc : FnScope ["self", y] ["self", y] scope)
    (hy1 : (y == ("__debug__" : Str)) = false) (hy2 : (y == ("__classdict__" : Str)) = false) (v1 : Vis scope "self") (v2 : Vis scope y)
    (hb : ∀ us : List Value, us.length = 2 → bindArgs (PySem.W.fnOf "__init__" q params [.Assign [.Attribute (.Name "self" p1) f p2] (.Name y p3) p4] scope dV kV doc pm an cdv ct) ⟨us, []⟩ = pure ((["self", y] : List Str).zip us)) : EF1 K mg x f :=
  ⟨C, PySem.W.mg_of X G a, ox, fl, fI, q, y, params, scope, p1, p2, p3, p4, dV, kV, doc, pm, cdv, ct, oc, an, od, osl, i1, i2, lk, cd, Sc, hy1, hy2, v1, v2, hb⟩
def dRaiseF (x f : Str) (de : EnP → Sto → Res PV) : EnP → Sto → SR := fun ρ S => sE (de ρ S) ρ fun v S1 => match v with
  | .int i => .exc x [(f, .int i)] ρ S1
  | _ => .bad
section
variable {X : Cx} {T : Tb} {W : WX} {k : Nat} {x f : Str} {p pos pos2 : Pos} {e : Expr} {de : EnP → Sto → Res PV}
theorem cs_raiseF (h1 : EF1 X.K X.mg x f) (Cx_ : Ctx X k W) (hk : 2 ≤ k) (hg : Gl X x) (he : CA X T W (e :: []) (dCons de dNil)) (hdb : (x == ("__debug__" : Str)) = false := by decide)
    (hst : starEach (e :: []) X.env = (false, eval e X.env) :: starEach [] X.env := by rfl) (hpl : (backTo pos (starEach [] X.env)).any (·.1) = false := by rfl) :
    CS X T W (.Raise (some (.Call (.Name x p) [e] [] pos)) none pos2) (dRaiseF x f de) := by
  obtain ⟨C, h⟩ := h1
  obtain ⟨fI, q, y, params, scope, p1, p2, p3, p4, dV, kV, doc, pm, cdv, ct, oc, an, od, osl, i1, i2, lk, hcd, Sc, hy1, hy2, v1, v2, hb⟩ := h.ini
  have F1 : FnOk X.prog X.w X.K X.mg X.base (L2.CX X.prog X.w) 1 fI (PySem.W.fnOf "__init__" q params [.Assign [.Attribute (.Name "self" p1) f p2] (.Name y p3) p4] scope dV kV doc pm an cdv ct) ["self", y] (spI C f) := by
    refine fn_of (k := 0) (N := ["self", y]) lk hcd Sc (fun vs G R E hs => ?_) fun A outer s G vs R E hr hs => ?_
    · obtain ⟨a, z, rfl, _⟩ := hs
      rfl
    · obtain ⟨a, z, rfl, ha, hn⟩ := hs
      refine ⟨_, pss_one (ps_ost (pe_var (i := 0) rfl v1 (by decide) (by decide)) (pe_var (i := 1) rfl v2 hy1 hy2)), ?_⟩
      exact ⟨z, rfl, .ref a, rfl, a, C, rfl, h.oex, h.fld, .inl ⟨ha, hn⟩⟩
  refine ps_imp (ps_raise Cx_.calm Cx_.tk (pmk_oex (dvs := []) (ds := []) h.oex i1 i2 F1 (Cx_.room.mono hk) (Binds.all hb) .nil passF hg h.at_ he hdb hst hpl)) fun D σ H ⟨ρ, S, m, hE, hS, pp⟩ => ?_
  show tl (gm X T) W (dCons de dNil) σ H _
  refine ⟨ρ, S, m, hE, hS, ?_⟩
  unfold dRaiseF at pp
  unfold dCons
  cases q1 : de ρ S with
  | bad => rw [q1] at pp; exact pp.elim
  | exc c fs S1 =>
    rw [q1] at pp
    exact fun m' H' cls dd s h1 h2 => pp m' H' σ cls dd s h1 (hE.step s) h2
  | ok v S1 =>
    rw [q1] at pp
    cases v with
    | int i =>
      intro m1 H1 ws s1 hS1 hr1
      obtain ⟨w, rfl, rw_⟩ := one_rep hr1
      have ew := rep_int rw_
      subst ew
      refine ⟨by show 1 ≤ 1000; omega, fun a ha => ⟨a, .int i, rfl, upd_same, fun dx hdx ne => ?_⟩⟩
      rw [upd_ne ne] at hdx
      refine ⟨rfl, dx, [(f, .int i)], upd_same, by rw [upd_ne ne, upd_same], hdx, ?_⟩
      have eh : upd (del (upd (upd (upd H1 a (exo a C none)) dx (exd dx [(f, .int i)])) a (exo a C (some dx))) a) dx (.xd [(f, .int i)]) = upd H1 dx (.xd [(f, .int i)]) := by
        funext b
        by_cases h1 : b = dx
        · rw [h1, upd_same, upd_same]
        · rw [upd_ne h1, upd_ne h1]
          by_cases h2 : b = a
          · rw [h2, del_same, ha]
          · rw [del_ne h2, upd_ne h2, upd_ne h1, upd_ne h2]
      rw [eh]
      have st : Step m1 H1 m1 (upd H1 dx (.xd [(f, .int i)])) := step_new hdx
      have s2 := s1.trans st
      refine pp m1 _ σ (.ref C) (some dx) s2 (hS1.new hdx) (hE.step s2) ⟨C, h.at_, rfl, (fun z => nomatch z), fun _ => ⟨dx, [(f, .int i)], rfl, upd_same, ?_⟩⟩
      exact ⟨.int i, [], rfl, mk_int i, rfl⟩
    | _ => exact pp.elim
end
theorem ce_geF {X : Cx} {T : Tb} {W : WX} {x f : Str} {pos : Pos} (c : EF1 X.K X.mg x f) (hg : Gl X x) (hd : (x == ("__debug__" : Str)) = false := by decide) : CE X T W (.Name x pos) (dC (.glb x)) := by
  obtain ⟨C, h⟩ := c
  exact ce_gfn hg h.at_ hd
end Mi
end
section
set_option Elab.async false
set_option linter.all false
set_option maxRecDepth 100000
set_option maxHeartbeats 1000000
/-! fractions as core's rationals -/
namespace Ra
open PySem PySem.Spec PyProof.Rows L2 Mi
def eQ (q : Rat) : PV := .tup [.int q.num, .int (q.den : Int)]
theorem den0 (q : Rat) : (q.den : Int) ≠ 0 := by have := q.den_pos; omega
theorem den_p (q : Rat) : 0 < (q.den : Int) := by have := q.den_pos; omega
/-- lowest terms of a over b -/
theorem num_div {a b : Int} (hb : 0 < b) : (Rat.divInt a b).num = a.fdiv (Int.gcd a b) := by
  rw [Rat.num_divInt, Int.sign_eq_one_of_pos hb, Int.one_mul, Int.gcd_comm, Int.fdiv_eq_ediv_of_nonneg _ (Int.natCast_nonneg _)]
theorem den_div {a b : Int} (hb : 0 < b) : ((Rat.divInt a b).den : Int) = b.fdiv (Int.gcd a b) := by
  rw [Rat.den_divInt, if_neg (by omega), Int.gcd_comm, Int.fdiv_eq_ediv_of_nonneg _ (Int.natCast_nonneg _), Int.natCast_ediv, Int.natAbs_of_nonneg (by omega)]
theorem num_divN {a b : Int} (hb : b < 0) : (Rat.divInt a b).num = (-a).fdiv (Int.gcd a b) := by
  rw [Rat.num_divInt, Int.sign_eq_neg_one_of_neg hb, Int.gcd_comm, Int.fdiv_eq_ediv_of_nonneg _ (Int.natCast_nonneg _), Int.neg_one_mul]
theorem den_divN {a b : Int} (hb : b < 0) : ((Rat.divInt a b).den : Int) = (-b).fdiv (Int.gcd a b) := by
  rw [Rat.den_divInt, if_neg (by omega), Int.gcd_comm, Int.fdiv_eq_ediv_of_nonneg _ (Int.natCast_nonneg _), Int.natCast_ediv]
  congr 1
  omega
theorem le_iff {x y : Rat} : x.num * (y.den : Int) ≤ y.num * (x.den : Int) ↔ x ≤ y := (Rat.le_iff x y).symm
theorem lt_iff {x y : Rat} : x.num * (y.den : Int) < y.num * (x.den : Int) ↔ x < y := (Rat.lt_iff x y).symm
theorem self (x : Rat) : Rat.divInt x.num x.den = x := Rat.num_divInt_den x
theorem add_is (x y : Rat) : Rat.divInt (x.num * y.den + y.num * x.den) (x.den * y.den) = x + y := by
  rw [← Rat.divInt_add_divInt _ _ (den0 x) (den0 y), self, self]
theorem sub_is (x y : Rat) : Rat.divInt (x.num * y.den - y.num * x.den) (x.den * y.den) = x - y := by
  rw [← Rat.divInt_sub_divInt _ _ (den0 x) (den0 y), self, self]
theorem mul_is (x y : Rat) : Rat.divInt (x.num * y.num) (x.den * y.den) = x * y := by
  rw [← Rat.divInt_mul_divInt, self, self]
theorem div_is (x y : Rat) : Rat.divInt (x.num * y.den) (x.den * y.num) = x / y := by
  have h : y⁻¹ = Rat.divInt y.den y.num := by
    have := Rat.inv_divInt y.num y.den
    rw [self] at this
    exact this
  rw [Rat.div_def, h, ← Rat.divInt_mul_divInt, self]
theorem div_eq (a b : Int) : Rat.divInt a b = (a : Rat) / (b : Rat) := Rat.divInt_eq_div a b
theorem num0 {x : Rat} : x.num = 0 ↔ x = 0 := Rat.num_eq_zero
theorem num_nn {x : Rat} : 0 ≤ x.num ↔ 0 ≤ x := Rat.num_nonneg
theorem num_neg {x : Rat} : x.num < 0 ↔ x < 0 := by
  have := @num_nn x
  have h : x < 0 ↔ ¬ 0 ≤ x := by grind
  rw [h, ← this]; omega
theorem num_pos {x : Rat} : 0 < x.num ↔ 0 < x := by
  have a := @num_nn x
  have b := @num0 x
  have h : 0 < x ↔ 0 ≤ x ∧ ¬ x = 0 := by grind
  rw [h, ← a, ← b]; omega
/-- sizes -/
structure Bd (k : Nat) (q : Rat) : Prop where
  n : q.num.natAbs ≤ k
  d : q.den ≤ k
theorem Bd.mono {m n : Nat} {q : Rat} (h : Bd m q) (k : m ≤ n) : Bd n q := ⟨Nat.le_trans h.n k, Nat.le_trans h.d k⟩
theorem fdiv_abs {a : Int} {g : Nat} : (a.fdiv g).natAbs ≤ a.natAbs := by
  rw [Int.fdiv_eq_ediv_of_nonneg _ (Int.natCast_nonneg _)]
  rcases Nat.eq_zero_or_pos g with rfl | hg
  · simp
  · exact Int.natAbs_ediv_le_natAbs a g
theorem bd_div {a b : Int} {n : Nat} (hb : b ≠ 0) (h1 : a.natAbs ≤ n) (h2 : b.natAbs ≤ n) : Bd n (Rat.divInt a b) := by
  rcases Int.lt_or_gt_of_ne hb with h | h
  · refine ⟨?_, ?_⟩
    · rw [num_divN h]
      exact Nat.le_trans fdiv_abs (by omega)
    · have := fdiv_abs (a := -b) (g := Int.gcd a b)
      rw [← den_divN h] at this
      omega
  · refine ⟨?_, ?_⟩
    · rw [num_div h]
      exact Nat.le_trans fdiv_abs h1
    · have := fdiv_abs (a := b) (g := Int.gcd a b)
      rw [← den_div h] at this
      omega
theorem mul_abs {a b : Int} {m n : Nat} (h : a.natAbs ≤ m) (k : b.natAbs ≤ n) : (a * b).natAbs ≤ m * n := by
  rw [Int.natAbs_mul]
  exact Nat.mul_le_mul h k
theorem Bd.dn {n : Nat} {q : Rat} (h : Bd n q) : (q.den : Int).natAbs ≤ n := by have := h.d; omega
theorem Bd.add {m n : Nat} {x y : Rat} (hx : Bd m x) (hy : Bd n y) : Bd (2 * (m * n)) (x + y) := by
  rw [← add_is]
  have a := mul_abs hx.n hy.dn
  have b := mul_abs hy.n hx.dn
  have c := mul_abs hx.dn hy.dn
  rw [Nat.mul_comm n m] at b
  refine bd_div (Int.mul_ne_zero (den0 x) (den0 y)) ?_ (by omega)
  have := Int.natAbs_add_le (x.num * y.den) (y.num * x.den)
  omega
theorem Bd.sub {m n : Nat} {x y : Rat} (hx : Bd m x) (hy : Bd n y) : Bd (2 * (m * n)) (x - y) := by
  rw [← sub_is]
  have a := mul_abs hx.n hy.dn
  have b := mul_abs hy.n hx.dn
  have c := mul_abs hx.dn hy.dn
  rw [Nat.mul_comm n m] at b
  refine bd_div (Int.mul_ne_zero (den0 x) (den0 y)) ?_ (by omega)
  have := Int.natAbs_sub_le (x.num * y.den) (y.num * x.den)
  omega
theorem Bd.mul {m n : Nat} {x y : Rat} (hx : Bd m x) (hy : Bd n y) : Bd (m * n) (x * y) := by
  rw [← mul_is]
  exact bd_div (Int.mul_ne_zero (den0 x) (den0 y)) (mul_abs hx.n hy.n) (mul_abs hx.dn hy.dn)
theorem Bd.div {m n : Nat} {x y : Rat} (hx : Bd m x) (hy : Bd n y) (h0 : y ≠ 0) : Bd (m * n) (x / y) := by
  rw [← div_is]
  exact bd_div (Int.mul_ne_zero (den0 x) (fun h => h0 (num0.mp h))) (mul_abs hx.n hy.dn) (mul_abs hx.dn hy.n)
theorem Bd.neg {n : Nat} {x : Rat} (h : Bd n x) : Bd n (-x) := ⟨by rw [Rat.neg_num, Int.natAbs_neg]; exact h.n, by rw [Rat.neg_den]; exact h.d⟩
theorem abs_is (x : Rat) : x.abs = if x < 0 then -x else x := by
  unfold Rat.abs
  by_cases h : 0 ≤ x
  · have : ¬ x < 0 := by grind
    rw [if_neg this, if_pos h]
  · have : x < 0 := by grind
    rw [if_pos this, if_neg h]
theorem abs_num (x : Rat) : x.abs.num = if x.num < 0 then -x.num else x.num := by
  rw [abs_is]
  by_cases h : x < 0
  · rw [if_pos h, if_pos (num_neg.mpr h), Rat.neg_num]
  · rw [if_neg h, if_neg (fun q => h (num_neg.mp q))]
theorem abs_den (x : Rat) : x.abs.den = x.den := by
  rw [abs_is]
  split
  · rw [Rat.neg_den]
  · rfl
end Ra
end
section
set_option Elab.async false
set_option linter.all false
set_option maxRecDepth 100000
set_option maxHeartbeats 4000000
namespace Ra
open PySem PySem.Spec PyProof.Rows L2 Mi

/-! ### the mirror's small words, computed -/
theorem mul_sm {i j : Int} {S : Sto} (h1 : i.natAbs ≤ 2 ^ 4000) (h2 : j.natAbs ≤ 2 ^ 4000) : fMul false (.int i) (.int j) S = .ok (.int (i * j)) S := by
  have l : ∀ n : Nat, n ≤ 2 ^ 4000 → n.log2 ≤ 4000 := fun n h => by
    by_cases z : n = 0
    · rw [z]; decide
    · have := (Nat.log2_lt z (k := 4001)).mpr (Nat.lt_of_le_of_lt h (by decide +kernel))
      omega
  show (if i.natAbs.log2 + j.natAbs.log2 < 100000000 then Res.ok (PV.int (i * j)) S else .bad) = _
  rw [if_pos (by have := l _ h1; have := l _ h2; omega)]
theorem div_sm {i j : Int} {S : Sto} (h1 : 0 < j) (h2 : j.natAbs ≤ 2 ^ 4000) : fDiv (.int i) (.int j) S = .ok (.int (i.fdiv j)) S := by
  have z : j.natAbs ≠ 0 := by omega
  have := (Nat.log2_lt z (k := 4001)).mpr (Nat.lt_of_le_of_lt h2 (by decide +kernel))
  show (if j ≠ 0 ∧ j.natAbs.log2 < 9000 then Res.ok (PV.int (i.fdiv j)) S else .bad) = _
  rw [if_pos ⟨by omega, by omega⟩]
theorem mod_sm {i j : Int} {S : Sto} (h1 : 0 < j) : fMod (.int i) (.int j) S = .ok (.int (i.fmod j)) S := by
  show (if j ≠ 0 then Res.ok (PV.int (i.fmod j)) S else .bad) = _
  rw [if_pos (by omega)]
theorem w_eq (neg : Bool) {i j : Int} {S : Sto} : fEq neg (.int i) (.int j) S = .ok (.bl (if neg = true then !(i == j) else i == j)) S := rfl
theorem w_add {i j : Int} {S : Sto} : fAdd false (.int i) (.int j) S = .ok (.int (i + j)) S := rfl
theorem w_sub {i j : Int} {S : Sto} : fSub (.int i) (.int j) S = .ok (.int (i - j)) S := rfl
theorem w_abs {i : Int} {S : Sto} : fAbs [.int i] S = .ok (.int (if i < 0 then -i else i)) S := rfl
theorem w_int {i : Int} {S : Sto} : fInt [.int i] S = .ok (.int i) S := rfl
/-! comprehensions and all() over data of one kind -/
theorem lcP_map {α : Type} {f : PV → EnP → Option EnP} {de : EnP → Sto → Res PV} {ρ : EnP} (enc g : α → PV) (P : α → Prop) (h : ∀ x, P x → ∃ ρ1, f (enc x) ρ = some ρ1 ∧ ∀ S, de ρ1 S = .ok (g x) S) :
    ∀ (xs : List α) (acc : List PV) (S : Sto), (∀ x ∈ xs, P x) → acc.length + xs.length ≤ lim → lcP f dYes de ρ (xs.map enc) acc S = .ok (acc ++ xs.map g) S
  | [], acc, S, _, _ => by simp [lcP]
  | x :: xs, acc, S, hP, hl => by
    obtain ⟨ρ1, e1, e2⟩ := h x (hP x List.mem_cons_self)
    rw [List.length_cons] at hl
    have ih := lcP_map enc g P h xs (acc ++ [g x]) S (fun y hy => hP y (List.mem_cons_of_mem _ hy)) (by rw [List.length_append, List.length_singleton]; omega)
    rw [List.map_cons, lcP]
    simp only [e1, dYes, e2]
    rw [if_pos (by omega), ih]
    simp
theorem dLc_map {α : Type} {di : EnP → Sto → Res (List PV)} {f : PV → EnP → Option EnP} {de : EnP → Sto → Res PV} {ρ : EnP} {vs : List Nat} {S : Sto} {xs : List α} (enc g : α → PV) (P : α → Prop) (hi : di ρ S = .ok (xs.map enc) S) (h : ∀ x, P x → ∃ ρ1, f (enc x) (wipeP ρ vs) = some ρ1 ∧ ∀ S, de ρ1 S = .ok (g x) S)
    (hP : ∀ x ∈ xs, P x) (hl : xs.length ≤ lim) : dLc false di f dYes de vs ρ S = .ok (.nl (xs.map g)) S := by
  unfold dLc
  rw [hi, Res.bind_ok, lcP_map enc g P h xs [] S hP (by simpa using hl), Res.bind_ok]
  unfold mkLst
  rw [if_pos (by simpa using hl)]
  simp
theorem bls_map {α : Type} (p : α → Bool) : ∀ xs : List α, blsOf (xs.map fun x => PV.bl (p x)) = some (xs.map p)
  | [] => rfl
  | x :: xs => by simp [blsOf, bls_map p xs]
theorem all_map {α : Type} (p : α → Bool) (xs : List α) (S : Sto) : fAll [.nl (xs.map fun x => PV.bl (p x))] S = .ok (.bl (xs.all p)) S := by
  show (match blsOf (xs.map fun x => PV.bl (p x)) with | some bs => Res.ok (PV.bl (bs.all id)) S | none => .bad) = _
  rw [bls_map]
  simp [List.all_map]
theorem tuple_nl {xs : List PV} {S : Sto} (h : xs.length ≤ lim) : fTuple [.nl xs] S = .ok (.tup xs) S := by
  show (if xs.length ≤ lim then Res.ok (PV.tup xs) S else .bad) = _
  rw [if_pos h]
theorem len_tup {xs : List PV} {S : Sto} : fLen [.tup xs] S = .ok (.int xs.length) S := rfl
theorem zip_map {α β : Type} (e1 : α → PV) (e2 : β → PV) (xs : List α) (ys : List β) : zipP (xs.map e1) (ys.map e2) = (xs.zip ys).map fun p => PV.tup [e1 p.1, e2 p.2] := by
  unfold zipP
  rw [List.zip_map, List.map_map]
  rfl
theorem const_true {α : Type} (xs : List α) : (xs.map fun _ => PV.bl true) = xs.map fun x => PV.bl ((fun _ => true) x) := rfl
theorem all_true {α : Type} (xs : List α) (S : Sto) : fAll [.nl (xs.map fun _ => PV.bl true)] S = .ok (.bl true) S := by
  have h := all_map (fun _ : α => true) xs S
  rw [h]
  simp

theorem fmod_nat (a b : Nat) : ((a : Int)).fmod (b : Int) = ((a % b : Nat) : Int) := by
  rw [Int.fmod_eq_emod_of_nonneg _ (by omega)]
  exact (Int.natCast_emod a b).symm
theorem isi_tup (xs : List PV) (S : Sto) : fIsi [.tup xs, .ty "tuple"] S = .ok (.bl true) S := rfl
theorem w_neg {i : Int} {S : Sto} : fNeg (.int i) S = .ok (.int (-i)) S := rfl
theorem ix_0 {a b : PV} {S : Sto} : fIx (.tup [a, b]) (.int 0) S = .ok a S := rfl
theorem ix_1 {a b : PV} {S : Sto} : fIx (.tup [a, b]) (.int 1) S = .ok b S := rfl
theorem ix_q0 {q : Rat} {S : Sto} : fIx (eQ q) (.int 0) S = .ok (.int q.num) S := rfl
theorem ix_q1 {q : Rat} {S : Sto} : fIx (eQ q) (.int 1) S = .ok (.int q.den) S := rfl
def big : Int := 10 ^ 300
/-- the program's fractions -/
structure Ok (q : Rat) : Prop where
  n : q.num.natAbs < 10 ^ 300
  d : q.den < 10 ^ 300
theorem Bd.ok {k : Nat} {q : Rat} (h : Bd k q) (l : k < 10 ^ 300) : Ok q := ⟨Nat.lt_of_le_of_lt h.n l, Nat.lt_of_le_of_lt h.d l⟩
theorem Ok.bd {q : Rat} (h : Ok q) : Bd (10 ^ 300) q := ⟨Nat.le_of_lt h.n, Nat.le_of_lt h.d⟩
theorem le4000 {n : Nat} (h : n ≤ 10 ^ 601) : n ≤ 2 ^ 4000 := Nat.le_trans h (by decide +kernel)
end Ra
end
section
set_option Elab.async false
set_option linter.all false
set_option maxRecDepth 100000
set_option maxHeartbeats 1000000
/-! powers -/
namespace Ra
open PySem PySem.Spec PyProof.Rows L2 Mi
def pw (b : Nat) (e : Int) : Rat := if 0 ≤ e then ((b ^ e.natAbs : Nat) : Rat) else Rat.divInt 1 ((b ^ e.natAbs : Nat) : Int)
theorem pw_nn {b : Nat} {e : Int} (h : 0 ≤ e) : (pw b e).num = ((b ^ e.natAbs : Nat) : Int) ∧ (pw b e).den = 1 := by
  unfold pw
  rw [if_pos h]
  exact ⟨Rat.num_natCast _, Rat.den_natCast _⟩
theorem pw_ng {b : Nat} {e : Int} (hb : 0 < b) (h : ¬ 0 ≤ e) : (pw b e).num = 1 ∧ ((pw b e).den : Int) = ((b ^ e.natAbs : Nat) : Int) := by
  unfold pw
  rw [if_neg h]
  have p : (0 : Int) < ((b ^ e.natAbs : Nat) : Int) := by have := Nat.pow_pos (n := e.natAbs) hb; omega
  have g : Int.gcd 1 ((b ^ e.natAbs : Nat) : Int) = 1 := Int.one_gcd
  refine ⟨?_, ?_⟩
  · rw [num_div p, g]; rfl
  · rw [den_div p, g]
    exact Int.fdiv_one _
end Ra
end
section
set_option Elab.async false
set_option linter.all false
set_option maxRecDepth 100000
set_option maxHeartbeats 1000000
namespace Ra
open PySem PySem.Spec PyProof.Rows L2 Mi
theorem pw_pos {b : Nat} (hb : 0 < b) (e : Int) : 0 < pw b e := by
  rw [← num_pos]
  by_cases h : 0 ≤ e
  · rw [(pw_nn h).1]
    have := Nat.pow_pos (n := e.natAbs) hb
    omega
  · rw [(pw_ng hb h).1]; decide
theorem nat_ne {n : Nat} (h : 0 < n) : (n : Rat) ≠ 0 := fun q => by
  have := congrArg Rat.num q
  rw [Rat.num_natCast] at this
  have z : (0 : Rat).num = 0 := rfl
  rw [z] at this
  omega
theorem pw_succ {b : Nat} (hb : 0 < b) (e : Int) : pw b (e + 1) = pw b e * (b : Rat) := by
  unfold pw
  by_cases h : 0 ≤ e
  · rw [if_pos h, if_pos (by omega)]
    have : (e + 1).natAbs = e.natAbs + 1 := by omega
    rw [this, Nat.pow_succ, Rat.natCast_mul]
  · rw [if_neg h]
    have p : b ^ e.natAbs = b ^ (e + 1).natAbs * b := by
      have : e.natAbs = (e + 1).natAbs + 1 := by omega
      rw [this, Nat.pow_succ]
    have b0 : (b : Rat) ≠ 0 := nat_ne hb
    have d0 : ((b ^ (e + 1).natAbs : Nat) : Rat) ≠ 0 := nat_ne (Nat.pow_pos hb)
    by_cases h1 : 0 ≤ e + 1
    · have : e = -1 := by omega
      subst this
      rw [if_pos h1, div_eq, p, Rat.intCast_natCast]
      have q : (-1 + 1 : Int).natAbs = 0 := rfl
      rw [q, Nat.pow_zero, Nat.one_mul]
      have o : ((1 : Int) : Rat) = 1 := rfl
      have o2 : ((1 : Nat) : Rat) = 1 := rfl
      rw [o, o2]
      generalize (b : Rat) = r at b0
      clear d0 p
      grind
    · rw [if_neg h1, div_eq, div_eq, p, Rat.intCast_natCast, Rat.intCast_natCast, Rat.natCast_mul]
      have o : ((1 : Int) : Rat) = 1 := rfl
      rw [o]
      generalize ((b ^ (e + 1).natAbs : Nat) : Rat) = d at d0
      generalize (b : Rat) = r at b0
      clear p
      grind
end Ra
end
section
set_option Elab.async false
set_option linter.all false
set_option maxRecDepth 100000
set_option maxHeartbeats 1000000
namespace Ra
open PySem PySem.Spec PyProof.Rows L2 Mi
theorem nat_le {a b : Nat} : ((a : Nat) : Rat) ≤ (b : Rat) ↔ a ≤ b := Rat.natCast_le_natCast
theorem pw_le1 {b : Nat} (hb : 1 ≤ b) (e : Int) : pw b e ≤ pw b (e + 1) := by
  rw [pw_succ (by omega)]
  have p := pw_pos (b := b) (by omega) e
  have h : (1 : Rat) ≤ (b : Rat) := by
    have := nat_le.mpr hb
    exact this
  have := Rat.mul_le_mul_of_nonneg_left h (Rat.le_of_lt p)
  rw [Rat.mul_one] at this
  exact this
theorem pw_mono {b : Nat} (hb : 1 ≤ b) {e f : Int} (h : e ≤ f) : pw b e ≤ pw b f := by
  obtain ⟨n, rfl⟩ := Int.le.dest h
  clear h
  induction n with
  | zero => simp
  | succ n ih =>
    have := pw_le1 hb (e + n)
    have q : e + ((n + 1 : Nat) : Int) = e + n + 1 := by omega
    rw [q]
    exact Rat.le_trans ih this
end Ra
end
section
set_option Elab.async false
set_option linter.all false
set_option maxRecDepth 100000
set_option maxHeartbeats 1000000
namespace Ra
open PySem PySem.Spec PyProof.Rows L2 Mi
/-- the least e from lo on with |x| < b ^ (k + e) -/
def IsEx (b : Nat) (k lo : Int) (x : Rat) (e : Int) : Prop := lo ≤ e ∧ x.abs < pw b (k + e) ∧ (e = lo ∨ pw b (k + (e - 1)) ≤ x.abs)
theorem IsEx.uniq {b : Nat} {k lo : Int} {x : Rat} {e f : Int} (hb : 1 ≤ b) (h : IsEx b k lo x e) (h' : IsEx b k lo x f) : e = f := by
  obtain ⟨a1, a2, a3⟩ := h
  obtain ⟨b1, b2, b3⟩ := h'
  rcases Int.lt_trichotomy e f with q | q | q
  · rcases b3 with b3 | b3
    · omega
    · have := pw_mono hb (show k + e ≤ k + (f - 1) by omega)
      grind
  · exact q
  · rcases a3 with a3 | a3
    · omega
    · have := pw_mono hb (show k + f ≤ k + (e - 1) by omega)
      grind
end Ra
end
section
set_option Elab.async false
set_option linter.all false
set_option maxRecDepth 100000
set_option maxHeartbeats 1000000
namespace Ra
open PySem PySem.Spec PyProof.Rows L2 Mi
theorem num_is (x : Rat) : (x.num : Rat) = x * (x.den : Rat) := by
  have h := self x
  rw [div_eq, Rat.intCast_natCast] at h
  have d := nat_ne x.den_pos
  generalize (x.num : Rat) = n at h ⊢
  generalize (x.den : Rat) = m at h d ⊢
  rw [← h]
  grind
/-- a pair T over M told against x -/
theorem pair_lt {x p : Rat} {T M : Nat} (hM : 0 < M) (h : (T : Rat) = p * (M : Rat)) : x.num * (M : Int) < (T : Int) * (x.den : Int) ↔ x < p := by
  have e1 : ((x.num * (M : Int) : Int) : Rat) = x * ((M * x.den : Nat) : Rat) := by
    rw [Rat.intCast_mul, num_is, Rat.intCast_natCast, Rat.natCast_mul]
    grind
  have e2 : (((T : Int) * (x.den : Int) : Int) : Rat) = p * ((M * x.den : Nat) : Rat) := by
    rw [Rat.intCast_mul, Rat.intCast_natCast, Rat.intCast_natCast, h, Rat.natCast_mul]
    grind
  have c : (0 : Rat) < ((M * x.den : Nat) : Rat) := by
    have : 0 < M * x.den := Nat.mul_pos hM x.den_pos
    have := (Rat.natCast_lt_natCast (a := 0) (b := M * x.den)).mpr this
    exact this
  rw [← Rat.intCast_lt_intCast, e1, e2]
  exact Rat.mul_lt_mul_right c
end Ra
end
section
set_option Elab.async false
set_option linter.all false
set_option maxRecDepth 100000
set_option maxHeartbeats 1000000
namespace Ra
open PySem PySem.Spec PyProof.Rows L2 Mi
theorem abs_nn (x : Rat) : 0 ≤ x.abs := by rw [abs_is]; split <;> grind
theorem Ok.abs {x : Rat} (h : Ok x) : Ok x.abs := ⟨by rw [abs_num]; have := h.n; split <;> omega, by rw [abs_den]; exact h.d⟩
theorem Ok.lt {x : Rat} (h : Ok x) : x < ((10 ^ 300 : Nat) : Rat) := by
  have e := num_is x
  have d : ((1 : Nat) : Rat) ≤ (x.den : Rat) := nat_le.mpr x.den_pos
  have n : (x.num : Rat) < ((10 ^ 300 : Nat) : Rat) := by
    rw [← Rat.intCast_natCast, Rat.intCast_lt_intCast]
    have := h.n
    omega
  have o : ((1 : Nat) : Rat) = 1 := rfl
  rw [o] at d
  by_cases q : x < ((10 ^ 300 : Nat) : Rat)
  · exact q
  · have q' : ((10 ^ 300 : Nat) : Rat) ≤ x := by grind
    have p : (0 : Rat) ≤ ((10 ^ 300 : Nat) : Rat) := nat_le.mpr (Nat.zero_le _)
    have r : x * 1 ≤ x * (x.den : Rat) := Rat.mul_le_mul_of_nonneg_left d (Rat.le_trans p q')
    rw [e] at n
    grind
theorem pw_big {b : Nat} (hb : 2 ≤ b) {e : Int} (h : 1000 ≤ e) {x : Rat} (hx : Ok x) : x < pw b e := by
  have m := pw_mono (b := b) (by omega) h
  have l : ((10 ^ 300 : Nat) : Rat) ≤ pw b 1000 := by
    unfold pw
    rw [if_pos (by decide)]
    refine nat_le.mpr (Nat.le_trans (m := 2 ^ 1000) (by decide +kernel) (Nat.pow_le_pow_left hb 1000))
  have := hx.lt
  grind
end Ra
end
section
set_option Elab.async false
set_option linter.all false
set_option maxRecDepth 100000
set_option maxHeartbeats 1000000
/-! holds over the rationals: the plain law -/
namespace Ra
theorem abs_is' (x : Rat) : x.abs = if x < 0 then -x else x := by
  unfold Rat.abs
  grind
inductive Wrd where | neg | size | add | sub | mul | div | least | most
deriving DecidableEq
def rmin (x y : Rat) : Rat := if x ≤ y then x else y
def rmax (x y : Rat) : Rat := if x ≤ y then y else x
structure Hd where
  lo : Rat
  hi : Rat
  off : Rat
structure Hd.Is (h : Hd) : Prop where
  le : h.lo ≤ h.hi
  nn : 0 ≤ h.off
def mx (a b : Rat) : Rat := rmax a.abs b.abs
def ls (a b : Rat) : Rat := if a ≤ 0 ∧ 0 ≤ b then 0 else rmin a.abs b.abs
def Wrd.ex : Wrd → Rat → Rat → Rat
  | .neg, x, _ => -x
  | .size, x, _ => x.abs
  | .add, x, y => x + y
  | .sub, x, y => x - y
  | .mul, x, y => x * y
  | .div, x, y => x / y
  | .least, x, y => rmin x y
  | .most, x, y => rmax x y
def min4 (a b c d : Rat) : Rat := rmin (rmin (rmin a b) c) d
def max4 (a b c d : Rat) : Rat := rmax (rmax (rmax a b) c) d
def eLo : Wrd → Hd → Hd → Rat
  | .neg, h, _ => -h.hi
  | .size, h, _ => ls h.lo h.hi
  | .add, h, g => h.lo + g.lo
  | .sub, h, g => h.lo - g.hi
  | .mul, h, g => min4 (h.lo * g.lo) (h.lo * g.hi) (h.hi * g.lo) (h.hi * g.hi)
  | .div, h, g => min4 (h.lo / g.lo) (h.lo / g.hi) (h.hi / g.lo) (h.hi / g.hi)
  | .least, h, g => rmin h.lo g.lo
  | .most, h, g => rmax h.lo g.lo
def eHi : Wrd → Hd → Hd → Rat
  | .neg, h, _ => -h.lo
  | .size, h, _ => mx h.lo h.hi
  | .add, h, g => h.hi + g.hi
  | .sub, h, g => h.hi - g.lo
  | .mul, h, g => max4 (h.lo * g.lo) (h.lo * g.hi) (h.hi * g.lo) (h.hi * g.hi)
  | .div, h, g => max4 (h.lo / g.lo) (h.lo / g.hi) (h.hi / g.lo) (h.hi / g.hi)
  | .least, h, g => rmin h.hi g.hi
  | .most, h, g => rmax h.hi g.hi
def spr : Wrd → Hd → Hd → Rat
  | .mul, h, g => mx h.lo h.hi * g.off + mx g.lo g.hi * h.off + h.off * g.off
  | .div, h, g => (h.off + mx h.lo h.hi * g.off / ls g.lo g.hi) / (ls g.lo g.hi - g.off)
  | _, h, g => h.off + g.off
structure In (h : Hd) (x : Rat) : Prop where
  lo : h.lo ≤ x
  hi : x ≤ h.hi
theorem lin {a b x : Rat} (y : Rat) (h1 : a ≤ x) (h2 : x ≤ b) : (a * y ≤ x * y ∧ x * y ≤ b * y) ∨ (b * y ≤ x * y ∧ x * y ≤ a * y) := by
  by_cases q : 0 ≤ y
  · exact .inl ⟨Rat.mul_le_mul_of_nonneg_right h1 q, Rat.mul_le_mul_of_nonneg_right h2 q⟩
  · right
    have q' : 0 ≤ -y := by grind
    have a1 := Rat.mul_le_mul_of_nonneg_right h1 q'
    have a2 := Rat.mul_le_mul_of_nonneg_right h2 q'
    constructor <;> grind
theorem box {a b c d x y : Rat} (h1 : a ≤ x) (h2 : x ≤ b) (h3 : c ≤ y) (h4 : y ≤ d) : min4 (a * c) (a * d) (b * c) (b * d) ≤ x * y ∧ x * y ≤ max4 (a * c) (a * d) (b * c) (b * d) := by
  have l1 := lin y h1 h2
  have l2 := lin a h3 h4
  have l3 := lin b h3 h4
  rw [Rat.mul_comm c a, Rat.mul_comm y a, Rat.mul_comm d a] at l2
  rw [Rat.mul_comm c b, Rat.mul_comm y b, Rat.mul_comm d b] at l3
  generalize a * c = p1 at *
  generalize a * d = p2 at *
  generalize b * c = p3 at *
  generalize b * d = p4 at *
  generalize a * y = p5 at *
  generalize b * y = p6 at *
  generalize x * y = p7 at *
  simp only [min4, max4, rmin, rmax]
  grind
theorem inv_le {a b : Rat} (h : 0 < a) (k : a ≤ b) : b⁻¹ ≤ a⁻¹ := by
  have hb : 0 < b := by grind
  have e1 : b⁻¹ = a * (a⁻¹ * b⁻¹) := by grind
  have e2 : a⁻¹ = b * (a⁻¹ * b⁻¹) := by grind
  have n : 0 ≤ a⁻¹ * b⁻¹ := Rat.le_of_lt (Rat.mul_pos (Rat.inv_pos.mpr h) (Rat.inv_pos.mpr hb))
  rw [e1, e2]
  have := Rat.mul_le_mul_of_nonneg_right k n
  grind
theorem dbox {a b c d x y : Rat} (h1 : a ≤ x) (h2 : x ≤ b) (h3 : c ≤ y) (h4 : y ≤ d) (n : ¬ (c ≤ 0 ∧ 0 ≤ d)) : min4 (a / c) (a / d) (b / c) (b / d) ≤ x / y ∧ x / y ≤ max4 (a / c) (a / d) (b / c) (b / d) := by
  have i : d⁻¹ ≤ y⁻¹ ∧ y⁻¹ ≤ c⁻¹ := by
    by_cases q : 0 < c
    · exact ⟨inv_le (by grind) h4, inv_le q h3⟩
    · have q2 : 0 < -d := by grind
      have a1 := inv_le q2 (show -d ≤ -y by grind)
      have a2 := inv_le (show 0 < -y by grind) (show -y ≤ -c by grind)
      have e (t : Rat) : (-t)⁻¹ = -(t⁻¹) := by grind
      rw [e, e] at a1 a2
      constructor <;> grind
  have B := box h1 h2 i.1 i.2
  simp only [Rat.div_def]
  generalize a * c⁻¹ = p1 at *
  generalize a * d⁻¹ = p2 at *
  generalize b * c⁻¹ = p3 at *
  generalize b * d⁻¹ = p4 at *
  generalize x * y⁻¹ = p7 at *
  simp only [min4, max4, rmin, rmax] at *
  grind
/-- what is exact lies within -/
theorem ex_in {w : Wrd} {h g : Hd} {x y : Rat} (hx : In h x) (hy : In g y) (n : w = .div → ¬ (g.lo ≤ 0 ∧ 0 ≤ g.hi)) : eLo w h g ≤ w.ex x y ∧ w.ex x y ≤ eHi w h g := by
  obtain ⟨a1, a2⟩ := hx
  obtain ⟨b1, b2⟩ := hy
  cases w with
  | mul => exact box a1 a2 b1 b2
  | div => exact dbox a1 a2 b1 b2 (n rfl)
  | _ => simp only [eLo, eHi, Wrd.ex, ls, mx, rmin, rmax, abs_is'] <;> grind
theorem abs_le {x o : Rat} : x.abs ≤ o ↔ -o ≤ x ∧ x ≤ o := by
  rw [abs_is']
  grind
theorem abs_mul (x y : Rat) : (x * y).abs = x.abs * y.abs := by
  have p := @Rat.mul_nonneg x y
  have p2 := @Rat.mul_nonneg (-x) y
  have p3 := @Rat.mul_nonneg x (-y)
  have p4 := @Rat.mul_nonneg (-x) (-y)
  simp only [abs_is']
  by_cases q : x < 0 <;> by_cases r : y < 0 <;> simp [q, r] <;> grind
theorem abs_nn' (x : Rat) : 0 ≤ x.abs := by rw [abs_is']; grind
theorem mul_mono {a b c d : Rat} (h1 : a ≤ b) (h2 : c ≤ d) (h3 : 0 ≤ a) (h4 : 0 ≤ c) : a * c ≤ b * d :=
  Rat.le_trans (Rat.mul_le_mul_of_nonneg_right h1 h4) (Rat.mul_le_mul_of_nonneg_left h2 (Rat.le_trans h3 h1))
theorem pb {u v o p : Rat} (h : u.abs ≤ o) (k : v.abs ≤ p) : (u * v).abs ≤ o * p := by
  rw [abs_mul]
  exact mul_mono h k (abs_nn' _) (abs_nn' _)
theorem mx_ge {h : Hd} {x : Rat} (k : In h x) : x.abs ≤ mx h.lo h.hi := by
  obtain ⟨k1, k2⟩ := k
  simp only [mx, rmax, abs_is']
  grind
theorem ls_le {h : Hd} {x : Rat} (k : In h x) : ls h.lo h.hi ≤ x.abs := by
  obtain ⟨k1, k2⟩ := k
  simp only [ls, rmin, abs_is']
  grind
theorem div_nn {a b : Rat} (h : 0 ≤ a) (k : 0 < b) : 0 ≤ a / b := by
  rw [Rat.div_def]
  exact Rat.mul_nonneg h (Rat.le_of_lt (Rat.inv_pos.mpr k))
theorem div_mono {a b c d : Rat} (h1 : 0 ≤ a) (h2 : a ≤ b) (h3 : 0 < d) (h4 : d ≤ c) : a / c ≤ b / d := by
  rw [Rat.div_def, Rat.div_def]
  exact mul_mono h2 (inv_le h3 h4) h1 (Rat.le_of_lt (Rat.inv_pos.mpr (by grind)))
theorem abs_div {x y : Rat} (h : y ≠ 0) : (x / y).abs = x.abs / y.abs := by
  have e : (x / y) * y = x := by grind
  have := abs_mul (x / y) y
  rw [e] at this
  have n : y.abs ≠ 0 := by rw [abs_is']; grind
  rw [this]
  grind
theorem abs_add (x y : Rat) : (x + y).abs ≤ x.abs + y.abs := by simp only [abs_is']; grind
/-- the error of a word -/
theorem err {w : Wrd} {h g : Hd} {x y x' y' : Rat} (hx : In h x) (hy : In g y) (ex : (x' - x).abs ≤ h.off) (ey : (y' - y).abs ≤ g.off) (n : w = .div → g.off < ls g.lo g.hi) :
    (w.ex x' y' - w.ex x y).abs ≤ (match w with | .neg | .size => h.off | .least | .most => rmax h.off g.off | _ => spr w h g) := by
  cases w with
  | mul =>
    simp only [Wrd.ex, spr]
    have e : x' * y' - x * y = x * (y' - y) + y * (x' - x) + (x' - x) * (y' - y) := by grind
    have b1 := pb (mx_ge hx) ey
    have b2 := pb (mx_ge hy) ex
    have b3 := pb ex ey
    rw [e]
    have c1 := abs_add (x * (y' - y) + y * (x' - x)) ((x' - x) * (y' - y))
    have c2 := abs_add (x * (y' - y)) (y * (x' - x))
    grind
  | div =>
    simp only [Wrd.ex, spr]
    have L := n rfl
    have ly := ls_le hy
    have o0 : 0 ≤ g.off := Rat.le_trans (abs_nn' _) ey
    have L0 : 0 < ls g.lo g.hi := by grind
    have ya : 0 < y.abs := by grind
    have y0 : y ≠ 0 := by rw [abs_is'] at ya; grind
    have y1 : ls g.lo g.hi - g.off ≤ y'.abs := by
      have : y.abs ≤ y'.abs + (y' - y).abs := by simp only [abs_is']; grind
      grind
    have y2 : y' ≠ 0 := by
      intro q
      rw [q] at y1
      have : (0 : Rat).abs = 0 := rfl
      grind
    have e : x' / y' - x / y = ((x' - x) - (x * (y' - y)) / y) / y' := by grind
    rw [e, abs_div y2]
    refine div_mono (abs_nn' _) ?_ (by grind) y1
    have c1 := abs_add (x' - x) (-((x * (y' - y)) / y))
    have c2 : (-((x * (y' - y)) / y)).abs = ((x * (y' - y)) / y).abs := by simp only [abs_is']; grind
    rw [abs_div y0] at c2
    have c3 : (x * (y' - y)).abs / y.abs ≤ mx h.lo h.hi * g.off / ls g.lo g.hi := div_mono (abs_nn' _) (pb (mx_ge hx) ey) L0 ly
    have c4 : x' - x - (x * (y' - y)) / y = x' - x + (-((x * (y' - y)) / y)) := by grind
    rw [c4]
    grind
  | _ =>
    simp only [Wrd.ex, spr, rmin, rmax]
    rw [abs_le] at *
    try simp only [abs_is']
    grind
end Ra
end
section
set_option Elab.async false
set_option linter.all false
set_option maxRecDepth 100000
set_option maxHeartbeats 1000000
namespace Ra
structure Cov (a b : Hd) : Prop where
  lo : a.lo ≤ b.lo
  hi : b.hi ≤ a.hi
  off : b.off ≤ a.off
theorem mx_mono {a b : Hd} (c : Cov a b) (h : b.lo ≤ b.hi) : mx b.lo b.hi ≤ mx a.lo a.hi := by
  obtain ⟨c1, c2, c3⟩ := c
  simp only [mx, rmax, abs_is']
  grind
theorem ls_mono {a b : Hd} (c : Cov a b) (h : b.lo ≤ b.hi) : ls a.lo a.hi ≤ ls b.lo b.hi := by
  obtain ⟨c1, c2, c3⟩ := c
  simp only [ls, rmin, abs_is']
  grind
theorem mx_nn (a b : Rat) : 0 ≤ mx a b := by simp only [mx, rmax, abs_is']; grind
theorem ls_nn (a b : Rat) : 0 ≤ ls a b := by simp only [ls, rmin, abs_is']; grind
theorem ls_0 {a b : Rat} (h : a ≤ 0 ∧ 0 ≤ b) : ls a b = 0 := if_pos h
theorem le_min4 {t a b c d : Rat} (h1 : t ≤ a) (h2 : t ≤ b) (h3 : t ≤ c) (h4 : t ≤ d) : t ≤ min4 a b c d := by simp only [min4, rmin]; grind
theorem max4_le {t a b c d : Rat} (h1 : a ≤ t) (h2 : b ≤ t) (h3 : c ≤ t) (h4 : d ≤ t) : max4 a b c d ≤ t := by simp only [max4, rmax]; grind
theorem ends_mono {w : Wrd} {h g h' g' : Hd} (c : Cov h' h) (k : Cov g' g) (ih : h.lo ≤ h.hi) (ig : g.lo ≤ g.hi) (n : w = .div → ¬ (g'.lo ≤ 0 ∧ 0 ≤ g'.hi)) :
    eLo w h' g' ≤ eLo w h g ∧ eHi w h g ≤ eHi w h' g' := by
  have i1 : In h' h.lo := ⟨c.lo, by have := c.hi; grind⟩
  have i2 : In h' h.hi := ⟨by have := c.lo; grind, c.hi⟩
  have j1 : In g' g.lo := ⟨k.lo, by have := k.hi; grind⟩
  have j2 : In g' g.hi := ⟨by have := k.lo; grind, k.hi⟩
  have q1 := ex_in (w := w) i1 j1 n
  have q2 := ex_in (w := w) i1 j2 n
  have q3 := ex_in (w := w) i2 j1 n
  have q4 := ex_in (w := w) i2 j2 n
  cases w with
  | mul => exact ⟨le_min4 q1.1 q2.1 q3.1 q4.1, max4_le q1.2 q2.2 q3.2 q4.2⟩
  | div => exact ⟨le_min4 q1.1 q2.1 q3.1 q4.1, max4_le q1.2 q2.2 q3.2 q4.2⟩
  | size => exact ⟨ls_mono c ih, mx_mono c ih⟩
  | neg | add | sub =>
    obtain ⟨c1, c2, c3⟩ := c
    obtain ⟨k1, k2, k3⟩ := k
    simp only [eLo, eHi]
    grind
  | least | most =>
    obtain ⟨c1, c2, c3⟩ := c
    obtain ⟨k1, k2, k3⟩ := k
    simp only [eLo, eHi, rmin, rmax]
    grind
theorem spr_mono {w : Wrd} {h g h' g' : Hd} (c : Cov h' h) (k : Cov g' g) (ih : h.Is) (ig : g.Is) (n : w = .div → g'.off < ls g'.lo g'.hi) : spr w h g ≤ spr w h' g' := by
  have m1 := mx_mono c ih.le
  have m2 := mx_mono k ig.le
  have l2 := ls_mono k ig.le
  have n1 := mx_nn h.lo h.hi
  have n2 := mx_nn g.lo g.hi
  have o1 := ih.nn
  have o2 := ig.nn
  have c3 := c.off
  have k3 := k.off
  cases w with
  | mul =>
    simp only [spr]
    have a1 := mul_mono m1 k3 n1 o2
    have a2 := mul_mono m2 c3 n2 o1
    have a3 := mul_mono c3 k3 o1 o2
    grind
  | div =>
    have L := n rfl
    simp only [spr]
    have a1 := mul_mono m1 k3 n1 o2
    have L1 : 0 < ls g'.lo g'.hi := by grind
    have a2 := div_mono (Rat.mul_nonneg n1 o2) a1 L1 l2
    have L2 : 0 < ls g.lo g.hi := by grind
    have a3 := div_nn (Rat.mul_nonneg n1 o2) L2
    refine div_mono (by grind) (by grind) (by grind) (by grind)
  | _ => simp only [spr]; grind
theorem spr_nn {w : Wrd} {h g : Hd} (ih : h.Is) (ig : g.Is) (n : w = .div → g.off < ls g.lo g.hi) : 0 ≤ spr w h g := by
  have n1 := mx_nn h.lo h.hi
  have n2 := mx_nn g.lo g.hi
  have o1 := ih.nn
  have o2 := ig.nn
  cases w with
  | mul =>
    simp only [spr]
    have a1 := Rat.mul_nonneg n1 o2
    have a2 := Rat.mul_nonneg n2 o1
    have a3 := Rat.mul_nonneg o1 o2
    grind
  | div =>
    have L := n rfl
    simp only [spr]
    have L2 : 0 < ls g.lo g.hi := by grind
    have a3 := div_nn (Rat.mul_nonneg n1 o2) L2
    exact div_nn (by grind) (by grind)
  | _ => simp only [spr]; grind
theorem ends_le {w : Wrd} {h g : Hd} (ih : h.Is) (ig : g.Is) (n : w = .div → g.off < ls g.lo g.hi) : eLo w h g ≤ eHi w h g := by
  have n' : w = .div → ¬ (g.lo ≤ 0 ∧ 0 ≤ g.hi) := fun q z => by
    have := n q
    rw [ls_0 z] at this
    have := ig.nn
    grind
  have := ex_in (w := w) (h := h) (g := g) (x := h.lo) (y := g.lo) ⟨by grind, ih.le⟩ ⟨by grind, ig.le⟩ n'
  exact Rat.le_trans this.1 this.2
theorem mx_sub {a b a' b' : Rat} (h1 : a' ≤ a) (h2 : b ≤ b') (h : a ≤ b) : mx a b ≤ mx a' b' := by
  simp only [mx, rmax, abs_is']
  grind
end Ra
end
section
set_option Elab.async false
set_option linter.all false
set_option maxRecDepth 100000
set_option maxHeartbeats 1000000
/-! numbers of a format, rounding, holds: the plain law -/
namespace Ra
open PySem PySem.Spec PyProof.Rows L2 Mi
structure Fm where
  b : Nat
  k : Int
  lo : Int
  hi : Int
def digs (b : Nat) : Int := if b < 3 then 4 else if b < 5 then 7 else if b < 11 then 10 else 13
def eF (f : Fm) : PV := .tup [.int f.b, .int f.k, .int f.lo, .int f.hi]
/-- small enough for all that follows -/
structure FmOk (f : Fm) : Prop where
  b0 : 2 ≤ f.b
  b1 : f.b ≤ 16
  k0 : 1 ≤ f.k
  k1 : f.k ≤ 60
  l0 : -400 ≤ f.lo
  l1 : f.lo ≤ 400
  h0 : -400 ≤ f.hi
  h1 : f.hi ≤ 400
  lh : f.lo ≤ f.hi
  sh : f.b ^ (f.k.natAbs + max f.lo.natAbs f.hi.natAbs) ≤ 10 ^ 140
  sd : (f.k + (max f.lo.natAbs f.hi.natAbs : Nat)) * digs f.b ≤ 1400
theorem pw_add {b : Nat} (hb : 0 < b) (e : Int) (n : Nat) : pw b (e + n) = pw b e * ((b ^ n : Nat) : Rat) := by
  induction n with
  | zero =>
    have o : ((1 : Nat) : Rat) = 1 := rfl
    rw [Nat.pow_zero, o, Int.natCast_zero, Int.add_zero, Rat.mul_one]
  | succ n ih =>
    have : e + ((n + 1 : Nat) : Int) = (e + n) + 1 := by omega
    rw [this, pw_succ hb, ih, Nat.pow_succ, Rat.natCast_mul, Rat.mul_assoc]
theorem pw_sub {b : Nat} (hb : 0 < b) {e e' : Int} (h : e' ≤ e) : pw b e = pw b e' * ((b ^ (e - e').toNat : Nat) : Rat) := by
  rw [← pw_add hb]
  congr 1
  omega
theorem ex_exists {b : Nat} {k lo : Int} {x : Rat} : ∀ (n : Nat) (e : Int), lo ≤ e → (e = lo ∨ pw b (k + (e - 1)) ≤ x.abs) → (∃ E, x.abs < pw b (k + E) ∧ e ≤ E ∧ (E - e).toNat < n) → ∃ e', IsEx b k lo x e' := by
  intro n
  induction n with
  | zero => intro e _ _ ⟨E, _, _, h⟩; omega
  | succ n ih =>
    intro e h1 h2 ⟨E, h3, h4, h5⟩
    by_cases q : x.abs < pw b (k + e)
    · exact ⟨e, h1, q, h2⟩
    · have ne : e ≠ E := fun z => q (z ▸ h3)
      refine ih (e + 1) (by omega) (.inr ?_) ⟨E, h3, by omega, by omega⟩
      rw [Int.add_sub_cancel]
      grind
open Classical in
noncomputable def exO (f : Fm) (x : Rat) : Int := if h : ∃ e, IsEx f.b f.k f.lo x e then h.choose else 0
theorem exO_of {f : Fm} {x : Rat} {E : Int} (h : f.lo ≤ E) (l : x.abs < pw f.b (f.k + E)) : IsEx f.b f.k f.lo x (exO f x) := by
  have : ∃ e, IsEx f.b f.k f.lo x e := ex_exists ((E - f.lo).toNat + 1) f.lo (by omega) (.inl rfl) ⟨E, l, h, by omega⟩
  unfold exO
  rw [dif_pos this]
  exact this.choose_spec
theorem exO_is {f : Fm} {x : Rat} (hf : FmOk f) (hx : Ok x) : IsEx f.b f.k f.lo x (exO f x) :=
  exO_of (E := 1000 - f.k) (by have := hf.l1; have := hf.k1; omega) (pw_big hf.b0 (by omega) hx.abs)
theorem exO_eq {f : Fm} {x : Rat} {e : Int} (hf : FmOk f) (h : IsEx f.b f.k f.lo x e) : exO f x = e :=
  IsEx.uniq (by have := hf.b0; omega) (exO_of h.1 h.2.1) h
theorem IsEx.le {b : Nat} {k lo : Int} {x : Rat} {e E : Int} (hb : 1 ≤ b) (h : IsEx b k lo x e) (hE : lo ≤ E) (l : x.abs < pw b (k + E)) : e ≤ E := by
  obtain ⟨a1, a2, a3⟩ := h
  rcases a3 with a3 | a3
  · omega
  · by_cases q : e ≤ E
    · exact q
    · have := pw_mono hb (show k + E ≤ k + (e - 1) by omega)
      grind
noncomputable def gapR (f : Fm) (x : Rat) : Rat := pw f.b (exO f x)
def mostR (f : Fm) : Rat := ((f.b ^ f.k.toNat - 1 : Nat) : Rat) * pw f.b f.hi
theorem gap_pos {f : Fm} (hf : FmOk f) (x : Rat) : 0 < gapR f x := pw_pos (by have := hf.b0; omega) _
theorem gap_mono {f : Fm} {x y : Rat} (hf : FmOk f) (hy : Ok y) (l : x.abs ≤ y.abs) : gapR f x ≤ gapR f y := by
  have hb : 1 ≤ f.b := by have := hf.b0; omega
  have h := exO_is hf hy
  have h2 : x.abs < pw f.b (f.k + exO f y) := by have := h.2.1; grind
  exact pw_mono hb (IsEx.le hb (exO_of h.1 h2) h.1 h2)
theorem most_nn (f : Fm) (hf : FmOk f) : 0 ≤ mostR f :=
  Rat.mul_nonneg (nat_le.mpr (Nat.zero_le _)) (Rat.le_of_lt (pw_pos (by have := hf.b0; omega) _))
theorem most_lt {f : Fm} (hf : FmOk f) : mostR f < pw f.b (f.k + f.hi) := by
  have hb : 0 < f.b := by have := hf.b0; omega
  have e : f.k + f.hi = f.hi + (f.k.toNat : Int) := by have := hf.k0; omega
  rw [e, pw_add hb, mostR, Rat.mul_comm]
  have p := pw_pos hb f.hi
  refine Rat.mul_lt_mul_of_pos_left ?_ p
  rw [Rat.natCast_lt_natCast]
  have := Nat.pow_pos (n := f.k.toNat) hb
  omega
inductive Wy | near | down | up | zero
deriving DecidableEq
def nearI (q : Rat) : Int := if 2 * (q - (q.floor : Rat)) = 1 then (if q.floor % 2 = 0 then q.floor else q.floor + 1) else (if 2 * (q - (q.floor : Rat)) < 1 then q.floor else q.floor + 1)
def rnd : Wy → Rat → Int
  | .near, q => nearI q
  | .down, q => q.floor
  | .up, q => -((-q).floor)
  | .zero, q => if 0 ≤ q then q.floor else -((-q).floor)
theorem cast_add1 (n : Int) : ((n + 1 : Int) : Rat) = (n : Rat) + 1 := by
  rw [Rat.intCast_add]
  rfl
theorem rnd_near (q : Rat) : ((rnd .near q : Int) - q : Rat).abs ≤ 1 / 2 := by
  have h1 := Rat.floor_le q
  have h2 := Rat.lt_floor_add_one q
  rw [cast_add1] at h2
  rw [abs_le]
  simp only [rnd, nearI]
  have c := cast_add1 q.floor
  split <;> split <;> (try rw [c]) <;> constructor <;> grind
theorem rnd_off (w : Wy) (q : Rat) : ((rnd w q : Int) - q : Rat).abs ≤ 1 := by
  have h1 := Rat.floor_le q
  have h2 := Rat.lt_floor_add_one q
  have h3 := Rat.floor_le (-q)
  have h4 := Rat.lt_floor_add_one (-q)
  rw [cast_add1] at h2 h4
  have n := Rat.intCast_neg (-q).floor
  cases w with
  | near => have := rnd_near q; grind
  | down => rw [abs_le]; simp only [rnd]; constructor <;> grind
  | up => rw [abs_le]; simp only [rnd]; rw [n]; constructor <;> grind
  | zero =>
    rw [abs_le]; simp only [rnd]
    split
    · constructor <;> grind
    · rw [n]; constructor <;> grind
theorem rnd_le {w : Wy} {q : Rat} {N : Int} (h : q ≤ (N : Rat)) : rnd w q ≤ N := by
  have f1 : q.floor ≤ N := by
    have := Rat.floor_monotone h
    rwa [Rat.floor_intCast] at this
  have f2 : -N ≤ (-q).floor := by rw [Rat.le_floor_iff, Rat.intCast_neg]; grind
  have f3 : q.floor = N → q = N := fun e => by
    have := Rat.floor_le q
    rw [e] at this
    grind
  have z : 2 * ((N : Rat) - N) = 0 := by grind
  cases w with
  | near =>
    simp only [rnd, nearI]
    by_cases e : q.floor = N
    · rw [e, f3 e, z]
      rw [if_neg (by decide), if_pos (by decide)]
      omega
    · split <;> split <;> omega
  | down => exact f1
  | up => simp only [rnd]; omega
  | zero => simp only [rnd]; split <;> omega
theorem ge_rnd {w : Wy} {q : Rat} {N : Int} (h : (N : Rat) ≤ q) : N ≤ rnd w q := by
  have f1 : N ≤ q.floor := Rat.le_floor_iff.mpr h
  have f2 : (-q).floor ≤ -N := by
    have := Rat.floor_monotone (show -q ≤ ((-N : Int) : Rat) by rw [Rat.intCast_neg]; grind)
    rwa [Rat.floor_intCast] at this
  cases w with
  | near => simp only [rnd, nearI]; split <;> split <;> omega
  | down => exact f1
  | up => simp only [rnd]; omega
  | zero => simp only [rnd]; split <;> omega
theorem rnd_int (w : Wy) (n : Int) : rnd w (n : Rat) = n := Int.le_antisymm (rnd_le Rat.le_refl) (ge_rnd Rat.le_refl)
structure IsNum (f : Fm) (r : Rat) : Prop where
  le : r.abs ≤ mostR f
  is : ∃ m : Int, r = (m : Rat) * gapR f r
open Classical in
noncomputable def roundR (f : Fm) (w : Wy) (z : Rat) : Option Rat :=
  if ((rnd w (z / gapR f z) : Int) * gapR f z : Rat).abs ≤ mostR f then some ((rnd w (z / gapR f z) : Int) * gapR f z) else none
theorem num_of {f : Fm} {r : Rat} {m E : Int} (hf : FmOk f) (h : r = (m : Rat) * pw f.b E) (hE : f.lo ≤ E) (l : r.abs < pw f.b (f.k + E)) : ∃ m : Int, r = (m : Rat) * gapR f r := by
  have hb : 0 < f.b := by have := hf.b0; omega
  have hi := exO_of hE l
  have le := IsEx.le hb hi hE l
  refine ⟨m * ((f.b ^ (E - exO f r).toNat : Nat) : Int), ?_⟩
  unfold gapR
  rw [Rat.intCast_mul, Rat.intCast_natCast, Rat.mul_assoc, Rat.mul_comm (((f.b ^ (E - exO f r).toNat : Nat) : Rat)), ← pw_sub hb le]
  exact h
end Ra
end
section
set_option Elab.async false
set_option linter.all false
set_option maxRecDepth 100000
set_option maxHeartbeats 1000000
namespace Ra
open PySem PySem.Spec PyProof.Rows L2 Mi
theorem abs_neg (x : Rat) : (-x).abs = x.abs := by simp only [abs_is']; grind
theorem int_le {a b : Int} : (a : Rat) ≤ (b : Rat) ↔ a ≤ b := Rat.intCast_le_intCast
theorem abs_int_mul {m : Int} {g : Rat} {N : Nat} (hg : 0 < g) (h1 : -(N : Int) ≤ m) (h2 : m ≤ N) : ((m : Rat) * g).abs ≤ (N : Rat) * g := by
  rw [abs_le]
  have a1 := Rat.mul_le_mul_of_nonneg_right (int_le.mpr h1) (Rat.le_of_lt hg)
  have a2 := Rat.mul_le_mul_of_nonneg_right (int_le.mpr h2) (Rat.le_of_lt hg)
  rw [Rat.intCast_neg, Rat.intCast_natCast] at a1
  rw [Rat.intCast_natCast] at a2
  constructor
  · grind
  · exact a2
/-- whole numbers of gaps that a bound leaves -/
theorem rnd_abs {w : Wy} {z g : Rat} {N : Nat} (hg : 0 < g) (h : z.abs ≤ (N : Rat) * g) : -(N : Int) ≤ rnd w (z / g) ∧ rnd w (z / g) ≤ (N : Int) := by
  rw [abs_le] at h
  have g0 : g ≠ 0 := by grind
  have i := Rat.le_of_lt (Rat.inv_pos.mpr hg)
  have e : z / g = z * g⁻¹ := Rat.div_def _ _
  have e2 : ((N : Rat) * g) * g⁻¹ = (N : Rat) := by grind
  constructor
  · refine ge_rnd ?_
    rw [Rat.intCast_neg, Rat.intCast_natCast, e]
    have := Rat.mul_le_mul_of_nonneg_right h.1 i
    grind
  · refine rnd_le ?_
    rw [Rat.intCast_natCast, e]
    have := Rat.mul_le_mul_of_nonneg_right h.2 i
    grind
theorem most_gap {f : Fm} {E : Int} (hf : FmOk f) (h : E ≤ f.hi) : mostR f = (((f.b ^ f.k.toNat - 1) * f.b ^ (f.hi - E).toNat : Nat) : Rat) * pw f.b E := by
  have hb : 0 < f.b := by have := hf.b0; omega
  rw [mostR, pw_sub hb h, Rat.natCast_mul]
  grind
theorem pw_k {f : Fm} (hf : FmOk f) (E : Int) : pw f.b (f.k + E) = ((f.b ^ f.k.toNat : Nat) : Rat) * pw f.b E := by
  have hb : 0 < f.b := by have := hf.b0; omega
  have e : f.k + E = E + (f.k.toNat : Int) := by have := hf.k0; omega
  rw [e, pw_add hb, Rat.mul_comm]
theorem ex_hi {f : Fm} {z : Rat} {e : Int} (hf : FmOk f) (h : IsEx f.b f.k f.lo z e) (l : z.abs ≤ mostR f) : e ≤ f.hi := by
  have hb : 0 < f.b := by have := hf.b0; omega
  exact IsEx.le hb h hf.lh (by have := most_lt hf; grind)
/-- the number of gaps, as a number of the format -/
theorem gaps_num {f : Fm} {r : Rat} {m E : Int} (hf : FmOk f) (h : r = (m : Rat) * pw f.b E) (hE : f.lo ≤ E) (b1 : -((f.b ^ f.k.toNat : Nat) : Int) ≤ m) (b2 : m ≤ ((f.b ^ f.k.toNat : Nat) : Int)) : ∃ m : Int, r = (m : Rat) * gapR f r := by
  have hb : 0 < f.b := by have := hf.b0; omega
  have p := pw_pos hb E
  by_cases q : -((f.b ^ f.k.toNat : Nat) : Int) < m ∧ m < ((f.b ^ f.k.toNat : Nat) : Int)
  · refine num_of hf h hE ?_
    have c := abs_int_mul (m := m) (N := f.b ^ f.k.toNat - 1) p (by omega) (by omega)
    rw [← h] at c
    rw [pw_k hf]
    have c2 : ((f.b ^ f.k.toNat - 1 : Nat) : Rat) * pw f.b E < ((f.b ^ f.k.toNat : Nat) : Rat) * pw f.b E := by
      rw [Rat.mul_comm, Rat.mul_comm (((f.b ^ f.k.toNat : Nat) : Rat))]
      refine Rat.mul_lt_mul_of_pos_left ?_ p
      rw [Rat.natCast_lt_natCast]
      have := Nat.pow_pos (n := f.k.toNat) hb
      omega
    grind
  · have k1 : f.k.toNat = (f.k.toNat - 1) + 1 := by have := hf.k0; omega
    have eP : ((f.b ^ f.k.toNat : Nat) : Rat) * pw f.b E = ((f.b ^ (f.k.toNat - 1) : Nat) : Rat) * pw f.b (E + 1) := by
      conv => lhs; rw [k1]
      rw [Nat.pow_succ, Rat.natCast_mul, pw_succ hb]
      grind
    have p1 := pw_pos hb (E + 1)
    have lt : ((f.b ^ (f.k.toNat - 1) : Nat) : Rat) * pw f.b (E + 1) < pw f.b (f.k + (E + 1)) := by
      rw [pw_k hf, Rat.mul_comm, Rat.mul_comm (((f.b ^ f.k.toNat : Nat) : Rat))]
      refine Rat.mul_lt_mul_of_pos_left ?_ p1
      rw [Rat.natCast_lt_natCast]
      exact Nat.pow_lt_pow_right (by have := hf.b0; omega) (by omega)
    rcases (show m = ((f.b ^ f.k.toNat : Nat) : Int) ∨ m = -((f.b ^ f.k.toNat : Nat) : Int) by omega) with e | e
    · have h' : r = (((f.b ^ (f.k.toNat - 1) : Nat) : Int) : Rat) * pw f.b (E + 1) := by
        rw [h, e, Rat.intCast_natCast, Rat.intCast_natCast, eP]
      refine num_of hf h' (by omega) ?_
      have c := abs_int_mul (m := ((f.b ^ (f.k.toNat - 1) : Nat) : Int)) (N := f.b ^ (f.k.toNat - 1)) p1 (by omega) (by omega)
      rw [← h'] at c
      grind
    · have h' : r = ((-((f.b ^ (f.k.toNat - 1) : Nat) : Int) : Int) : Rat) * pw f.b (E + 1) := by
        rw [h, e, Rat.intCast_neg, Rat.intCast_neg, Rat.intCast_natCast, Rat.intCast_natCast, Rat.neg_mul, Rat.neg_mul, eP]
      refine num_of hf h' (by omega) ?_
      have c := abs_int_mul (m := -((f.b ^ (f.k.toNat - 1) : Nat) : Int)) (N := f.b ^ (f.k.toNat - 1)) p1 (by omega) (by omega)
      rw [← h'] at c
      grind
theorem round_is {f : Fm} {w : Wy} {z : Rat} (hf : FmOk f) (hz : Ok z) : ∃ m : Int, (rnd w (z / gapR f z) : Int) * gapR f z = (m : Rat) * gapR f ((rnd w (z / gapR f z) : Int) * gapR f z) := by
  have h := exO_is hf hz
  have hb : 0 < f.b := by have := hf.b0; omega
  have l := h.2.1
  rw [pw_k hf] at l
  have b := rnd_abs (w := w) (gap_pos hf z) (Rat.le_of_lt l)
  exact gaps_num hf rfl h.1 b.1 b.2
theorem round_num {f : Fm} {w : Wy} {z r : Rat} (hf : FmOk f) (hz : Ok z) (h : roundR f w z = some r) : IsNum f r := by
  unfold roundR at h
  split at h
  · injection h with h
    subst h
    exact ⟨by assumption, round_is hf hz⟩
  · cases h
theorem div_off {f : Fm} {z : Rat} (hf : FmOk f) (n : Int) : ((n : Rat) * gapR f z - z) = ((n : Rat) - z / gapR f z) * gapR f z := by
  have := gap_pos hf z
  grind
noncomputable def offR (f : Fm) (w : Wy) (x : Rat) : Rat := if w = .near then gapR f x * (1 / 2) else gapR f x
theorem round_fact {f : Fm} {w : Wy} {z : Rat} (hf : FmOk f) (hz : Ok z) (l : z.abs ≤ mostR f) : ∃ r, roundR f w z = some r ∧ IsNum f r ∧ (r - z).abs ≤ offR f w z := by
  have h := exO_is hf hz
  have g0 := gap_pos hf z
  have eh := ex_hi hf h l
  have mg := most_gap hf eh
  have c : ((rnd w (z / gapR f z) : Int) * gapR f z : Rat).abs ≤ mostR f := by
    have l' := l
    rw [mg] at l'
    have b := rnd_abs (w := w) g0 l'
    have := abs_int_mul g0 b.1 b.2
    rw [mg]
    exact this
  have e : roundR f w z = some ((rnd w (z / gapR f z) : Int) * gapR f z) := if_pos c
  refine ⟨_, e, round_num hf hz e, ?_⟩
  rw [div_off hf, abs_mul]
  have ga : (gapR f z).abs = gapR f z := by rw [abs_is']; grind
  rw [ga]
  unfold offR
  split
  · rename_i q
    subst q
    have := Rat.mul_le_mul_of_nonneg_right (rnd_near (z / gapR f z)) (Rat.le_of_lt g0)
    grind
  · have := Rat.mul_le_mul_of_nonneg_right (rnd_off w (z / gapR f z)) (Rat.le_of_lt g0)
    grind
theorem off_mono {f : Fm} {w : Wy} {x y : Rat} (hf : FmOk f) (hy : Ok y) (l : x.abs ≤ y.abs) : offR f w x ≤ offR f w y := by
  have := gap_mono hf hy l
  unfold offR
  split <;> grind
theorem off_nn {f : Fm} {w : Wy} {x : Rat} (hf : FmOk f) : 0 ≤ offR f w x := by
  have := gap_pos hf x
  unfold offR
  split <;> grind
theorem num_self {f : Fm} {w : Wy} {x : Rat} (hf : FmOk f) (h : IsNum f x) : roundR f w x = some x := by
  obtain ⟨l, m, e⟩ := h
  have g0 := gap_pos hf x
  have q : x / gapR f x = (m : Rat) := by
    have n : gapR f x ≠ 0 := by grind
    have e1 : x = (m : Rat) * gapR f x := e
    generalize gapR f x = g at e1 n
    rw [e1]
    grind
  unfold roundR
  rw [q, rnd_int, ← e, if_pos l]
theorem gap_abs {f : Fm} {x y : Rat} (h : x.abs = y.abs) : gapR f x = gapR f y := by
  have : IsEx f.b f.k f.lo x = IsEx f.b f.k f.lo y := by funext e; unfold IsEx; rw [h]
  unfold gapR exO
  rw [this]
theorem IsNum.neg {f : Fm} {x : Rat} (h : IsNum f x) : IsNum f (-x) := by
  obtain ⟨l, m, e⟩ := h
  refine ⟨by rw [abs_neg]; exact l, -m, ?_⟩
  rw [gap_abs (abs_neg x), Rat.intCast_neg, Rat.neg_mul, ← e]
theorem IsNum.abs {f : Fm} {x : Rat} (h : IsNum f x) : IsNum f x.abs := by
  rw [abs_is']
  split
  · exact h.neg
  · exact h
end Ra
end
section
set_option Elab.async false
set_option linter.all false
set_option maxRecDepth 100000
set_option maxHeartbeats 1000000
namespace Ra
open PySem PySem.Spec PyProof.Rows L2 Mi
def mstR (w : Wrd) (h g : Hd) : Rat := mx (eLo w h g) (eHi w h g) + spr w h g
open Classical in
noncomputable def holdR (f : Fm) (y : Wy) (w : Wrd) (h g : Hd) : Option Hd :=
  if w = .div ∧ ls g.lo g.hi ≤ g.off then none else
  match w with
  | .neg | .size => some ⟨eLo w h g, eHi w h g, h.off⟩
  | .least | .most => some ⟨eLo w h g, eHi w h g, rmax h.off g.off⟩
  | _ => if mstR w h g ≤ mostR f then some ⟨eLo w h g, eHi w h g, spr w h g + offR f y (mstR w h g)⟩ else none
theorem hold_div {f : Fm} {y : Wy} {w : Wrd} {h g H : Hd} (e : holdR f y w h g = some H) : w = .div → g.off < ls g.lo g.hi := fun q => by
  unfold holdR at e
  split at e
  · cases e
  · rename_i n
    have : ¬ ls g.lo g.hi ≤ g.off := fun z => n ⟨q, z⟩
    grind
theorem div_n {w : Wrd} {g : Hd} (ig : g.Is) (n : w = .div → g.off < ls g.lo g.hi) : w = .div → ¬ (g.lo ≤ 0 ∧ 0 ≤ g.hi) := fun q z => by
  have := n q
  rw [ls_0 z] at this
  have := ig.nn
  grind
def Wrd.big : Wrd → Bool
  | .add | .sub | .mul | .div => true
  | _ => false
open Classical in
theorem holdR_big {f : Fm} {y : Wy} {w : Wrd} {h g : Hd} (hb : w.big = true) (n : ¬(w = .div ∧ ls g.lo g.hi ≤ g.off)) : holdR f y w h g = if mstR w h g ≤ mostR f then some ⟨eLo w h g, eHi w h g, spr w h g + offR f y (mstR w h g)⟩ else none := by
  unfold holdR
  rw [if_neg n]
  cases w <;> first | (cases hb; done) | skip
  all_goals dsimp only
  all_goals split <;> rfl
/-- what a hold by a word is -/
theorem hold_is {f : Fm} {y : Wy} {w : Wrd} {h g H : Hd} (e : holdR f y w h g = some H) :
    H.lo = eLo w h g ∧ H.hi = eHi w h g ∧ H.off = (match w with | .neg | .size => h.off | .least | .most => rmax h.off g.off | _ => spr w h g + offR f y (mstR w h g)) ∧ (w.big = true → mstR w h g ≤ mostR f) := by
  unfold holdR at e
  split at e
  · cases e
  · cases w with
    | neg | size | least | most => cases e; exact ⟨rfl, rfl, rfl, fun z => by cases z⟩
    | add | sub | mul | div =>
      dsimp only at e
      split at e
      · cases e; exact ⟨rfl, rfl, rfl, fun _ => by assumption⟩
      · cases e
theorem hold_ok {f : Fm} {y : Wy} {w : Wrd} {h g H : Hd} (hf : FmOk f) (e : holdR f y w h g = some H) (ih : h.Is) (ig : g.Is) : H.Is := by
  have n := hold_div e
  have el := ends_le ih ig n
  obtain ⟨e1, e2, e3, _⟩ := hold_is e
  refine ⟨by rw [e1, e2]; exact el, ?_⟩
  rw [e3]
  have a := ih.nn
  have b := ig.nn
  have s := spr_nn ih ig n
  have o := off_nn (w := y) (x := mstR w h g) hf
  cases w <;> simp only [rmax] <;> grind
theorem big_fact {f : Fm} {y : Wy} {w : Wrd} {h g H : Hd} {u v o : Rat} (hf : FmOk f) (e1 : H.lo = eLo w h g) (e2 : H.hi = eHi w h g) (e3 : o = spr w h g + offR f y (mstR w h g)) (m : mstR w h g ≤ mostR f) (s : 0 ≤ spr w h g)
    (inn : eLo w h g ≤ u ∧ u ≤ eHi w h g) (er : (v - u).abs ≤ spr w h g) (ok : Ok v) (okm : Ok (mstR w h g)) : ∃ r, roundR f y v = some r ∧ IsNum f r ∧ (r - u).abs ≤ o := by
  have q := mx_ge (h := H) ⟨by rw [e1]; exact inn.1, by rw [e2]; exact inn.2⟩
  rw [e1, e2] at q
  have l : v.abs ≤ mstR w h g := by
    unfold mstR
    have := abs_add (v - u) u
    have e : v - u + u = v := by grind
    rw [e] at this
    grind
  obtain ⟨r, r1, r2, r3⟩ := round_fact (w := y) hf ok (Rat.le_trans l m)
  refine ⟨r, r1, r2, ?_⟩
  have a : (mstR w h g).abs = mstR w h g := by
    rw [abs_is']
    have := abs_nn' v
    grind
  have o := off_mono (w := y) (x := v) hf okm (by rw [a]; exact l)
  have := abs_add (r - v) (v - u)
  have e : r - v + (v - u) = r - u := by grind
  rw [e] at this
  grind
/-- THE FACT of rules -/
theorem hold_fact {f : Fm} {y : Wy} {w : Wrd} {h g H : Hd} {x z x' z' : Rat} (hf : FmOk f) (e : holdR f y w h g = some H) (ih : h.Is) (ig : g.Is) (hx : In h x) (hz : In g z)
    (ex : (x' - x).abs ≤ h.off) (ez : (z' - z).abs ≤ g.off) (nx : IsNum f x') (nz : IsNum f z') (ok : Ok (w.ex x' z')) (okm : Ok (mstR w h g)) :
    In H (w.ex x z) ∧ ∃ r, roundR f y (w.ex x' z') = some r ∧ IsNum f r ∧ (r - w.ex x z).abs ≤ H.off := by
  have n := hold_div e
  have inn := ex_in (w := w) hx hz (div_n ig n)
  have er := err (w := w) hx hz ex ez n
  obtain ⟨e1, e2, e3, e4⟩ := hold_is e
  refine ⟨⟨by rw [e1]; exact inn.1, by rw [e2]; exact inn.2⟩, ?_⟩
  rw [e3]
  cases w with
  | neg => exact ⟨_, num_self hf nx.neg, nx.neg, er⟩
  | size => exact ⟨_, num_self hf nx.abs, nx.abs, er⟩
  | least =>
    have q : IsNum f (Wrd.ex .least x' z') := by simp only [Wrd.ex, rmin]; split <;> assumption
    exact ⟨_, num_self hf q, q, er⟩
  | most =>
    have q : IsNum f (Wrd.ex .most x' z') := by simp only [Wrd.ex, rmax]; split <;> assumption
    exact ⟨_, num_self hf q, q, er⟩
  | add => exact big_fact hf e1 e2 rfl (e4 rfl) (spr_nn ih ig n) inn er ok okm
  | sub => exact big_fact hf e1 e2 rfl (e4 rfl) (spr_nn ih ig n) inn er ok okm
  | mul => exact big_fact hf e1 e2 rfl (e4 rfl) (spr_nn ih ig n) inn er ok okm
  | div => exact big_fact hf e1 e2 rfl (e4 rfl) (spr_nn ih ig n) inn er ok okm
theorem hold_mono {f : Fm} {y : Wy} {w : Wrd} {h g h' g' H H' : Hd} (hf : FmOk f) (e : holdR f y w h g = some H) (e' : holdR f y w h' g' = some H') (ih : h.Is) (ig : g.Is) (ig' : g'.Is) (c : Cov h' h) (k : Cov g' g) (okm : Ok (mstR w h' g')) : Cov H' H := by
  have n := hold_div e
  have n' := hold_div e'
  have em := ends_mono (w := w) c k ih.le ig.le (div_n ig' n')
  have sm := spr_mono c k ih ig n'
  have el := ends_le ih ig n
  have s := spr_nn ih ig n
  obtain ⟨e1, e2, e3, _⟩ := hold_is e
  obtain ⟨d1, d2, d3, _⟩ := hold_is e'
  refine ⟨by rw [e1, d1]; exact em.1, by rw [e2, d2]; exact em.2, ?_⟩
  rw [e3, d3]
  have mm : mstR w h g ≤ mstR w h' g' := by
    unfold mstR
    have := mx_sub em.1 em.2 el
    grind
  have m0 : 0 ≤ mstR w h g := by
    unfold mstR
    have := mx_nn (eLo w h g) (eHi w h g)
    grind
  have o := off_mono (w := y) (x := mstR w h g) hf okm (by rw [abs_is', abs_is']; grind)
  have c3 := c.off
  have k3 := k.off
  cases w <;> simp only [rmax] <;> grind
end Ra
end
section
set_option Elab.async false
set_option linter.all false
set_option maxRecDepth 100000
set_option maxHeartbeats 1000000
namespace Ra
open PySem PySem.Spec PyProof.Rows L2 Mi
@[simp] theorem sq_near_near (S : Sto) : fEq false (.str "near") (.str "near") S = .ok (.bl true) S := by kernel_rfl
@[simp] theorem sq_near_down (S : Sto) : fEq false (.str "near") (.str "down") S = .ok (.bl false) S := by kernel_rfl
@[simp] theorem sq_near_up (S : Sto) : fEq false (.str "near") (.str "up") S = .ok (.bl false) S := by kernel_rfl
@[simp] theorem sq_near_zero (S : Sto) : fEq false (.str "near") (.str "zero") S = .ok (.bl false) S := by kernel_rfl
@[simp] theorem sq_down_near (S : Sto) : fEq false (.str "down") (.str "near") S = .ok (.bl false) S := by kernel_rfl
@[simp] theorem sq_down_down (S : Sto) : fEq false (.str "down") (.str "down") S = .ok (.bl true) S := by kernel_rfl
@[simp] theorem sq_down_up (S : Sto) : fEq false (.str "down") (.str "up") S = .ok (.bl false) S := by kernel_rfl
@[simp] theorem sq_down_zero (S : Sto) : fEq false (.str "down") (.str "zero") S = .ok (.bl false) S := by kernel_rfl
@[simp] theorem sq_up_near (S : Sto) : fEq false (.str "up") (.str "near") S = .ok (.bl false) S := by kernel_rfl
@[simp] theorem sq_up_down (S : Sto) : fEq false (.str "up") (.str "down") S = .ok (.bl false) S := by kernel_rfl
@[simp] theorem sq_up_up (S : Sto) : fEq false (.str "up") (.str "up") S = .ok (.bl true) S := by kernel_rfl
@[simp] theorem sq_up_zero (S : Sto) : fEq false (.str "up") (.str "zero") S = .ok (.bl false) S := by kernel_rfl
@[simp] theorem sq_zero_near (S : Sto) : fEq false (.str "zero") (.str "near") S = .ok (.bl false) S := by kernel_rfl
@[simp] theorem sq_zero_down (S : Sto) : fEq false (.str "zero") (.str "down") S = .ok (.bl false) S := by kernel_rfl
@[simp] theorem sq_zero_up (S : Sto) : fEq false (.str "zero") (.str "up") S = .ok (.bl false) S := by kernel_rfl
@[simp] theorem sq_zero_zero (S : Sto) : fEq false (.str "zero") (.str "zero") S = .ok (.bl true) S := by kernel_rfl
@[simp] theorem sq_neg_neg (S : Sto) : fEq false (.str "neg") (.str "neg") S = .ok (.bl true) S := by kernel_rfl
@[simp] theorem sq_neg_size (S : Sto) : fEq false (.str "neg") (.str "size") S = .ok (.bl false) S := by kernel_rfl
@[simp] theorem sq_neg_add (S : Sto) : fEq false (.str "neg") (.str "add") S = .ok (.bl false) S := by kernel_rfl
@[simp] theorem sq_neg_sub (S : Sto) : fEq false (.str "neg") (.str "sub") S = .ok (.bl false) S := by kernel_rfl
@[simp] theorem sq_neg_mul (S : Sto) : fEq false (.str "neg") (.str "mul") S = .ok (.bl false) S := by kernel_rfl
@[simp] theorem sq_neg_div (S : Sto) : fEq false (.str "neg") (.str "div") S = .ok (.bl false) S := by kernel_rfl
@[simp] theorem sq_neg_least (S : Sto) : fEq false (.str "neg") (.str "least") S = .ok (.bl false) S := by kernel_rfl
@[simp] theorem sq_neg_most (S : Sto) : fEq false (.str "neg") (.str "most") S = .ok (.bl false) S := by kernel_rfl
@[simp] theorem sq_size_neg (S : Sto) : fEq false (.str "size") (.str "neg") S = .ok (.bl false) S := by kernel_rfl
@[simp] theorem sq_size_size (S : Sto) : fEq false (.str "size") (.str "size") S = .ok (.bl true) S := by kernel_rfl
@[simp] theorem sq_size_add (S : Sto) : fEq false (.str "size") (.str "add") S = .ok (.bl false) S := by kernel_rfl
@[simp] theorem sq_size_sub (S : Sto) : fEq false (.str "size") (.str "sub") S = .ok (.bl false) S := by kernel_rfl
@[simp] theorem sq_size_mul (S : Sto) : fEq false (.str "size") (.str "mul") S = .ok (.bl false) S := by kernel_rfl
@[simp] theorem sq_size_div (S : Sto) : fEq false (.str "size") (.str "div") S = .ok (.bl false) S := by kernel_rfl
@[simp] theorem sq_size_least (S : Sto) : fEq false (.str "size") (.str "least") S = .ok (.bl false) S := by kernel_rfl
@[simp] theorem sq_size_most (S : Sto) : fEq false (.str "size") (.str "most") S = .ok (.bl false) S := by kernel_rfl
@[simp] theorem sq_add_neg (S : Sto) : fEq false (.str "add") (.str "neg") S = .ok (.bl false) S := by kernel_rfl
@[simp] theorem sq_add_size (S : Sto) : fEq false (.str "add") (.str "size") S = .ok (.bl false) S := by kernel_rfl
@[simp] theorem sq_add_add (S : Sto) : fEq false (.str "add") (.str "add") S = .ok (.bl true) S := by kernel_rfl
@[simp] theorem sq_add_sub (S : Sto) : fEq false (.str "add") (.str "sub") S = .ok (.bl false) S := by kernel_rfl
@[simp] theorem sq_add_mul (S : Sto) : fEq false (.str "add") (.str "mul") S = .ok (.bl false) S := by kernel_rfl
@[simp] theorem sq_add_div (S : Sto) : fEq false (.str "add") (.str "div") S = .ok (.bl false) S := by kernel_rfl
@[simp] theorem sq_add_least (S : Sto) : fEq false (.str "add") (.str "least") S = .ok (.bl false) S := by kernel_rfl
@[simp] theorem sq_add_most (S : Sto) : fEq false (.str "add") (.str "most") S = .ok (.bl false) S := by kernel_rfl
@[simp] theorem sq_sub_neg (S : Sto) : fEq false (.str "sub") (.str "neg") S = .ok (.bl false) S := by kernel_rfl
@[simp] theorem sq_sub_size (S : Sto) : fEq false (.str "sub") (.str "size") S = .ok (.bl false) S := by kernel_rfl
@[simp] theorem sq_sub_add (S : Sto) : fEq false (.str "sub") (.str "add") S = .ok (.bl false) S := by kernel_rfl
@[simp] theorem sq_sub_sub (S : Sto) : fEq false (.str "sub") (.str "sub") S = .ok (.bl true) S := by kernel_rfl
@[simp] theorem sq_sub_mul (S : Sto) : fEq false (.str "sub") (.str "mul") S = .ok (.bl false) S := by kernel_rfl
@[simp] theorem sq_sub_div (S : Sto) : fEq false (.str "sub") (.str "div") S = .ok (.bl false) S := by kernel_rfl
@[simp] theorem sq_sub_least (S : Sto) : fEq false (.str "sub") (.str "least") S = .ok (.bl false) S := by kernel_rfl
@[simp] theorem sq_sub_most (S : Sto) : fEq false (.str "sub") (.str "most") S = .ok (.bl false) S := by kernel_rfl
@[simp] theorem sq_mul_neg (S : Sto) : fEq false (.str "mul") (.str "neg") S = .ok (.bl false) S := by kernel_rfl
@[simp] theorem sq_mul_size (S : Sto) : fEq false (.str "mul") (.str "size") S = .ok (.bl false) S := by kernel_rfl
@[simp] theorem sq_mul_add (S : Sto) : fEq false (.str "mul") (.str "add") S = .ok (.bl false) S := by kernel_rfl
@[simp] theorem sq_mul_sub (S : Sto) : fEq false (.str "mul") (.str "sub") S = .ok (.bl false) S := by kernel_rfl
@[simp] theorem sq_mul_mul (S : Sto) : fEq false (.str "mul") (.str "mul") S = .ok (.bl true) S := by kernel_rfl
@[simp] theorem sq_mul_div (S : Sto) : fEq false (.str "mul") (.str "div") S = .ok (.bl false) S := by kernel_rfl
@[simp] theorem sq_mul_least (S : Sto) : fEq false (.str "mul") (.str "least") S = .ok (.bl false) S := by kernel_rfl
@[simp] theorem sq_mul_most (S : Sto) : fEq false (.str "mul") (.str "most") S = .ok (.bl false) S := by kernel_rfl
@[simp] theorem sq_div_neg (S : Sto) : fEq false (.str "div") (.str "neg") S = .ok (.bl false) S := by kernel_rfl
@[simp] theorem sq_div_size (S : Sto) : fEq false (.str "div") (.str "size") S = .ok (.bl false) S := by kernel_rfl
@[simp] theorem sq_div_add (S : Sto) : fEq false (.str "div") (.str "add") S = .ok (.bl false) S := by kernel_rfl
@[simp] theorem sq_div_sub (S : Sto) : fEq false (.str "div") (.str "sub") S = .ok (.bl false) S := by kernel_rfl
@[simp] theorem sq_div_mul (S : Sto) : fEq false (.str "div") (.str "mul") S = .ok (.bl false) S := by kernel_rfl
@[simp] theorem sq_div_div (S : Sto) : fEq false (.str "div") (.str "div") S = .ok (.bl true) S := by kernel_rfl
@[simp] theorem sq_div_least (S : Sto) : fEq false (.str "div") (.str "least") S = .ok (.bl false) S := by kernel_rfl
@[simp] theorem sq_div_most (S : Sto) : fEq false (.str "div") (.str "most") S = .ok (.bl false) S := by kernel_rfl
@[simp] theorem sq_least_neg (S : Sto) : fEq false (.str "least") (.str "neg") S = .ok (.bl false) S := by kernel_rfl
@[simp] theorem sq_least_size (S : Sto) : fEq false (.str "least") (.str "size") S = .ok (.bl false) S := by kernel_rfl
@[simp] theorem sq_least_add (S : Sto) : fEq false (.str "least") (.str "add") S = .ok (.bl false) S := by kernel_rfl
@[simp] theorem sq_least_sub (S : Sto) : fEq false (.str "least") (.str "sub") S = .ok (.bl false) S := by kernel_rfl
@[simp] theorem sq_least_mul (S : Sto) : fEq false (.str "least") (.str "mul") S = .ok (.bl false) S := by kernel_rfl
@[simp] theorem sq_least_div (S : Sto) : fEq false (.str "least") (.str "div") S = .ok (.bl false) S := by kernel_rfl
@[simp] theorem sq_least_least (S : Sto) : fEq false (.str "least") (.str "least") S = .ok (.bl true) S := by kernel_rfl
@[simp] theorem sq_least_most (S : Sto) : fEq false (.str "least") (.str "most") S = .ok (.bl false) S := by kernel_rfl
@[simp] theorem sq_most_neg (S : Sto) : fEq false (.str "most") (.str "neg") S = .ok (.bl false) S := by kernel_rfl
@[simp] theorem sq_most_size (S : Sto) : fEq false (.str "most") (.str "size") S = .ok (.bl false) S := by kernel_rfl
@[simp] theorem sq_most_add (S : Sto) : fEq false (.str "most") (.str "add") S = .ok (.bl false) S := by kernel_rfl
@[simp] theorem sq_most_sub (S : Sto) : fEq false (.str "most") (.str "sub") S = .ok (.bl false) S := by kernel_rfl
@[simp] theorem sq_most_mul (S : Sto) : fEq false (.str "most") (.str "mul") S = .ok (.bl false) S := by kernel_rfl
@[simp] theorem sq_most_div (S : Sto) : fEq false (.str "most") (.str "div") S = .ok (.bl false) S := by kernel_rfl
@[simp] theorem sq_most_least (S : Sto) : fEq false (.str "most") (.str "least") S = .ok (.bl false) S := by kernel_rfl
@[simp] theorem sq_most_most (S : Sto) : fEq false (.str "most") (.str "most") S = .ok (.bl true) S := by kernel_rfl
@[simp] theorem si_neg_as (S : Sto) : fIn false (.str "neg") (.tup [.str "add", .str "sub"]) S = .ok (.bl false) S := by kernel_rfl
@[simp] theorem si_neg_md (S : Sto) : fIn false (.str "neg") (.tup [.str "mul", .str "div"]) S = .ok (.bl false) S := by kernel_rfl
@[simp] theorem si_neg_lm (S : Sto) : fIn false (.str "neg") (.tup [.str "least", .str "most"]) S = .ok (.bl false) S := by kernel_rfl
@[simp] theorem sd_neg_ns (S : Sto) : fIn false (.str "neg") (.tup [.str "neg", .str "size"]) S = .ok (.bl true) S := by kernel_rfl
@[simp] theorem sd_neg (S : Sto) : fIn true (.str "neg") (.tup [.str "neg", .str "size", .str "add", .str "sub", .str "mul", .str "div", .str "least", .str "most"]) S = .ok (.bl false) S := by kernel_rfl
@[simp] theorem si_size_as (S : Sto) : fIn false (.str "size") (.tup [.str "add", .str "sub"]) S = .ok (.bl false) S := by kernel_rfl
@[simp] theorem si_size_md (S : Sto) : fIn false (.str "size") (.tup [.str "mul", .str "div"]) S = .ok (.bl false) S := by kernel_rfl
@[simp] theorem si_size_lm (S : Sto) : fIn false (.str "size") (.tup [.str "least", .str "most"]) S = .ok (.bl false) S := by kernel_rfl
@[simp] theorem sd_size_ns (S : Sto) : fIn false (.str "size") (.tup [.str "neg", .str "size"]) S = .ok (.bl true) S := by kernel_rfl
@[simp] theorem sd_size (S : Sto) : fIn true (.str "size") (.tup [.str "neg", .str "size", .str "add", .str "sub", .str "mul", .str "div", .str "least", .str "most"]) S = .ok (.bl false) S := by kernel_rfl
@[simp] theorem si_add_as (S : Sto) : fIn false (.str "add") (.tup [.str "add", .str "sub"]) S = .ok (.bl true) S := by kernel_rfl
@[simp] theorem si_add_md (S : Sto) : fIn false (.str "add") (.tup [.str "mul", .str "div"]) S = .ok (.bl false) S := by kernel_rfl
@[simp] theorem si_add_lm (S : Sto) : fIn false (.str "add") (.tup [.str "least", .str "most"]) S = .ok (.bl false) S := by kernel_rfl
@[simp] theorem sd_add_ns (S : Sto) : fIn false (.str "add") (.tup [.str "neg", .str "size"]) S = .ok (.bl false) S := by kernel_rfl
@[simp] theorem sd_add (S : Sto) : fIn true (.str "add") (.tup [.str "neg", .str "size", .str "add", .str "sub", .str "mul", .str "div", .str "least", .str "most"]) S = .ok (.bl false) S := by kernel_rfl
@[simp] theorem si_sub_as (S : Sto) : fIn false (.str "sub") (.tup [.str "add", .str "sub"]) S = .ok (.bl true) S := by kernel_rfl
@[simp] theorem si_sub_md (S : Sto) : fIn false (.str "sub") (.tup [.str "mul", .str "div"]) S = .ok (.bl false) S := by kernel_rfl
@[simp] theorem si_sub_lm (S : Sto) : fIn false (.str "sub") (.tup [.str "least", .str "most"]) S = .ok (.bl false) S := by kernel_rfl
@[simp] theorem sd_sub_ns (S : Sto) : fIn false (.str "sub") (.tup [.str "neg", .str "size"]) S = .ok (.bl false) S := by kernel_rfl
@[simp] theorem sd_sub (S : Sto) : fIn true (.str "sub") (.tup [.str "neg", .str "size", .str "add", .str "sub", .str "mul", .str "div", .str "least", .str "most"]) S = .ok (.bl false) S := by kernel_rfl
@[simp] theorem si_mul_as (S : Sto) : fIn false (.str "mul") (.tup [.str "add", .str "sub"]) S = .ok (.bl false) S := by kernel_rfl
@[simp] theorem si_mul_md (S : Sto) : fIn false (.str "mul") (.tup [.str "mul", .str "div"]) S = .ok (.bl true) S := by kernel_rfl
@[simp] theorem si_mul_lm (S : Sto) : fIn false (.str "mul") (.tup [.str "least", .str "most"]) S = .ok (.bl false) S := by kernel_rfl
@[simp] theorem sd_mul_ns (S : Sto) : fIn false (.str "mul") (.tup [.str "neg", .str "size"]) S = .ok (.bl false) S := by kernel_rfl
@[simp] theorem sd_mul (S : Sto) : fIn true (.str "mul") (.tup [.str "neg", .str "size", .str "add", .str "sub", .str "mul", .str "div", .str "least", .str "most"]) S = .ok (.bl false) S := by kernel_rfl
@[simp] theorem si_div_as (S : Sto) : fIn false (.str "div") (.tup [.str "add", .str "sub"]) S = .ok (.bl false) S := by kernel_rfl
@[simp] theorem si_div_md (S : Sto) : fIn false (.str "div") (.tup [.str "mul", .str "div"]) S = .ok (.bl true) S := by kernel_rfl
@[simp] theorem si_div_lm (S : Sto) : fIn false (.str "div") (.tup [.str "least", .str "most"]) S = .ok (.bl false) S := by kernel_rfl
@[simp] theorem sd_div_ns (S : Sto) : fIn false (.str "div") (.tup [.str "neg", .str "size"]) S = .ok (.bl false) S := by kernel_rfl
@[simp] theorem sd_div (S : Sto) : fIn true (.str "div") (.tup [.str "neg", .str "size", .str "add", .str "sub", .str "mul", .str "div", .str "least", .str "most"]) S = .ok (.bl false) S := by kernel_rfl
@[simp] theorem si_least_as (S : Sto) : fIn false (.str "least") (.tup [.str "add", .str "sub"]) S = .ok (.bl false) S := by kernel_rfl
@[simp] theorem si_least_md (S : Sto) : fIn false (.str "least") (.tup [.str "mul", .str "div"]) S = .ok (.bl false) S := by kernel_rfl
@[simp] theorem si_least_lm (S : Sto) : fIn false (.str "least") (.tup [.str "least", .str "most"]) S = .ok (.bl true) S := by kernel_rfl
@[simp] theorem sd_least_ns (S : Sto) : fIn false (.str "least") (.tup [.str "neg", .str "size"]) S = .ok (.bl false) S := by kernel_rfl
@[simp] theorem sd_least (S : Sto) : fIn true (.str "least") (.tup [.str "neg", .str "size", .str "add", .str "sub", .str "mul", .str "div", .str "least", .str "most"]) S = .ok (.bl false) S := by kernel_rfl
@[simp] theorem si_most_as (S : Sto) : fIn false (.str "most") (.tup [.str "add", .str "sub"]) S = .ok (.bl false) S := by kernel_rfl
@[simp] theorem si_most_md (S : Sto) : fIn false (.str "most") (.tup [.str "mul", .str "div"]) S = .ok (.bl false) S := by kernel_rfl
@[simp] theorem si_most_lm (S : Sto) : fIn false (.str "most") (.tup [.str "least", .str "most"]) S = .ok (.bl true) S := by kernel_rfl
@[simp] theorem sd_most_ns (S : Sto) : fIn false (.str "most") (.tup [.str "neg", .str "size"]) S = .ok (.bl false) S := by kernel_rfl
@[simp] theorem sd_most (S : Sto) : fIn true (.str "most") (.tup [.str "neg", .str "size", .str "add", .str "sub", .str "mul", .str "div", .str "least", .str "most"]) S = .ok (.bl false) S := by kernel_rfl
@[simp] theorem sw_near (S : Sto) : fIn true (.str "near") (.tup [.str "near", .str "down", .str "up", .str "zero"]) S = .ok (.bl false) S := by kernel_rfl
@[simp] theorem swc_near (S : Sto) : fIn true (.str "near") (.ct [.str "near", .str "down", .str "up", .str "zero"]) S = .ok (.bl false) S := by kernel_rfl
@[simp] theorem sw_down (S : Sto) : fIn true (.str "down") (.tup [.str "near", .str "down", .str "up", .str "zero"]) S = .ok (.bl false) S := by kernel_rfl
@[simp] theorem swc_down (S : Sto) : fIn true (.str "down") (.ct [.str "near", .str "down", .str "up", .str "zero"]) S = .ok (.bl false) S := by kernel_rfl
@[simp] theorem sw_up (S : Sto) : fIn true (.str "up") (.tup [.str "near", .str "down", .str "up", .str "zero"]) S = .ok (.bl false) S := by kernel_rfl
@[simp] theorem swc_up (S : Sto) : fIn true (.str "up") (.ct [.str "near", .str "down", .str "up", .str "zero"]) S = .ok (.bl false) S := by kernel_rfl
@[simp] theorem sw_zero (S : Sto) : fIn true (.str "zero") (.tup [.str "near", .str "down", .str "up", .str "zero"]) S = .ok (.bl false) S := by kernel_rfl
@[simp] theorem swc_zero (S : Sto) : fIn true (.str "zero") (.ct [.str "near", .str "down", .str "up", .str "zero"]) S = .ok (.bl false) S := by kernel_rfl
theorem two_words (S : Sto) : fAdd false (.tup [.str "neg", .str "size"]) (.tup [.str "add", .str "sub", .str "mul", .str "div", .str "least", .str "most"]) S = .ok (.tup [.str "neg", .str "size", .str "add", .str "sub", .str "mul", .str "div", .str "least", .str "most"]) S := by kernel_rfl
end Ra
end
section
set_option Elab.async false
set_option linter.all false
set_option maxRecDepth 100000
set_option maxHeartbeats 1000000
/-! sizes of fractions: two bounds -/
namespace Ra
open PySem PySem.Spec PyProof.Rows L2 Mi
structure Sz (n d : Nat) (q : Rat) : Prop where
  n : q.num.natAbs ≤ n
  d : q.den ≤ d
theorem Sz.mono {n d n' d' : Nat} {q : Rat} (h : Sz n d q) (a : n ≤ n') (b : d ≤ d') : Sz n' d' q := ⟨Nat.le_trans h.n a, Nat.le_trans h.d b⟩
theorem Sz.ok {n d : Nat} {q : Rat} (h : Sz n d q) (a : n < 10 ^ 300) (b : d < 10 ^ 300) : Ok q := ⟨Nat.lt_of_le_of_lt h.n a, Nat.lt_of_le_of_lt h.d b⟩
theorem num_ge {n : Nat} {d : Nat} {a b : Int} (hb : b ≠ 0) (h1 : a.natAbs ≤ n) (h2 : b.natAbs ≤ d) : Sz n d (Rat.divInt a b) := by
  have fa : ∀ (c : Int) (g : Nat), (c.fdiv g).natAbs ≤ c.natAbs := fun c g => fdiv_abs
  by_cases p : 0 < b
  · have e1 := num_div (a := a) p
    have e2 := den_div (a := a) p
    have l1 := fa a (Int.gcd a b)
    have l2 := fa b (Int.gcd a b)
    rw [← e1] at l1
    rw [← e2] at l2
    exact ⟨by omega, by omega⟩
  · have e1 := num_divN (a := a) (show b < 0 by omega)
    have e2 := den_divN (a := a) (show b < 0 by omega)
    have l1 := fa (-a) (Int.gcd a b)
    have l2 := fa (-b) (Int.gcd a b)
    rw [← e1] at l1
    rw [← e2] at l2
    exact ⟨by omega, by omega⟩
theorem Sz.add {n d m e : Nat} {x y : Rat} (hx : Sz n d x) (hy : Sz m e y) : Sz (n * e + m * d) (d * e) (x + y) := by
  rw [← add_is]
  refine num_ge (Int.mul_ne_zero (den0 x) (den0 y)) ?_ ?_
  · have a := mul_abs hx.n (show ((y.den : Nat) : Int).natAbs ≤ e by have := hy.d; omega)
    have b := mul_abs hy.n (show ((x.den : Nat) : Int).natAbs ≤ d by have := hx.d; omega)
    have c : (x.num * y.den + y.num * x.den).natAbs ≤ (x.num * y.den).natAbs + (y.num * x.den).natAbs := Int.natAbs_add_le _ _
    omega
  · exact mul_abs (show ((x.den : Nat) : Int).natAbs ≤ d by have := hx.d; omega) (show ((y.den : Nat) : Int).natAbs ≤ e by have := hy.d; omega)
theorem Sz.neg {n d : Nat} {x : Rat} (h : Sz n d x) : Sz n d (-x) := ⟨by rw [Rat.neg_num, Int.natAbs_neg]; exact h.n, by rw [Rat.neg_den]; exact h.d⟩
theorem Sz.sub {n d m e : Nat} {x y : Rat} (hx : Sz n d x) (hy : Sz m e y) : Sz (n * e + m * d) (d * e) (x - y) := by
  rw [Rat.sub_eq_add_neg]
  exact hx.add hy.neg
theorem Sz.mul {n d m e : Nat} {x y : Rat} (hx : Sz n d x) (hy : Sz m e y) : Sz (n * m) (d * e) (x * y) := by
  rw [← mul_is]
  refine num_ge (Int.mul_ne_zero (den0 x) (den0 y)) (mul_abs hx.n hy.n) ?_
  exact mul_abs (show ((x.den : Nat) : Int).natAbs ≤ d by have := hx.d; omega) (show ((y.den : Nat) : Int).natAbs ≤ e by have := hy.d; omega)
theorem Sz.div {n d m e : Nat} {x y : Rat} (hx : Sz n d x) (hy : Sz m e y) (o : 1 ≤ d * m) : Sz (n * e) (d * m) (x / y) := by
  by_cases z : y = 0
  · have : x / y = 0 := by rw [z]; grind
    rw [this]
    exact ⟨Nat.zero_le _, o⟩
  · rw [← div_is]
    refine num_ge (Int.mul_ne_zero (den0 x) (fun h => z (num0.mp h))) ?_ ?_
    · exact mul_abs hx.n (show ((y.den : Nat) : Int).natAbs ≤ e by have := hy.d; omega)
    · exact mul_abs (show ((x.den : Nat) : Int).natAbs ≤ d by have := hx.d; omega) hy.n
theorem Sz.abs {n d : Nat} {x : Rat} (h : Sz n d x) : Sz n d x.abs := ⟨by rw [abs_num]; have := h.n; split <;> omega, by rw [abs_den]; exact h.d⟩
theorem Sz.rmax {n d : Nat} {x y : Rat} (h : Sz n d x) (k : Sz n d y) : Sz n d (rmax x y) := by unfold Ra.rmax; split <;> assumption
theorem Sz.rmin {n d : Nat} {x y : Rat} (h : Sz n d x) (k : Sz n d y) : Sz n d (rmin x y) := by unfold Ra.rmin; split <;> assumption
theorem Sz.mx {n d : Nat} {x y : Rat} (h : Sz n d x) (k : Sz n d y) : Sz n d (mx x y) := h.abs.rmax k.abs
theorem Sz.ls {n d : Nat} {x y : Rat} (h : Sz n d x) (k : Sz n d y) : Sz n d (ls x y) := by
  unfold Ra.ls
  split
  · exact ⟨Nat.zero_le _, Nat.le_trans h.abs.d (Nat.le_refl _) |> fun z => Nat.le_trans (x.den_pos) (by rw [abs_den] at z; exact z)⟩
  · exact h.abs.rmin k.abs
/-- a hold's sizes: of its ends, of its off -/
structure HSz (e n d : Nat) (h : Hd) : Prop where
  lo : Sz e e h.lo
  hi : Sz e e h.hi
  off : Sz n d h.off
theorem HSz.mono {e n d e' n' d' : Nat} {h : Hd} (k : HSz e n d h) (a : e ≤ e') (b : n ≤ n') (c : d ≤ d') : HSz e' n' d' h := ⟨k.lo.mono a a, k.hi.mono a a, k.off.mono b c⟩
theorem ex_sz {w : Wrd} {e : Nat} {x y : Rat} (he : 1 ≤ e) (hx : Sz e e x) (hy : Sz e e y) : Sz (2 * e * e) (2 * e * e) (w.ex x y) := by
  have e1 : 1 * e ≤ e * e := Nat.mul_le_mul he (Nat.le_refl _)
  have e2 : e * e + e * e = 2 * e * e := by grind
  have e3 : e * e ≤ 2 * e * e := by omega
  have e4 : e ≤ 2 * e * e := by omega
  cases w with
  | neg => exact hx.neg.mono e4 e4
  | size => exact hx.abs.mono e4 e4
  | add => exact (hx.add hy).mono (by omega) e3
  | sub => exact (hx.sub hy).mono (by omega) e3
  | mul => exact (hx.mul hy).mono e3 e3
  | div => exact (hx.div hy (by omega)).mono e3 e3
  | least => exact (hx.rmin hy).mono e4 e4
  | most => exact (hx.rmax hy).mono e4 e4
theorem ends_sz {w : Wrd} {e n d n' d' : Nat} {h g : Hd} (he : 1 ≤ e) (hh : HSz e n d h) (hg : HSz e n' d' g) : Sz (2 * e * e) (2 * e * e) (eLo w h g) ∧ Sz (2 * e * e) (2 * e * e) (eHi w h g) := by
  have e1 : 1 * e ≤ e * e := Nat.mul_le_mul he (Nat.le_refl _)
  have e4 : e ≤ 2 * e * e := by grind
  cases w with
  | neg => exact ⟨hh.hi.neg.mono e4 e4, hh.lo.neg.mono e4 e4⟩
  | size => exact ⟨(hh.lo.ls hh.hi).mono e4 e4, (hh.lo.mx hh.hi).mono e4 e4⟩
  | add => exact ⟨ex_sz (w := .add) he hh.lo hg.lo, ex_sz (w := .add) he hh.hi hg.hi⟩
  | sub => exact ⟨ex_sz (w := .sub) he hh.lo hg.hi, ex_sz (w := .sub) he hh.hi hg.lo⟩
  | mul =>
    have a1 := ex_sz (w := .mul) he hh.lo hg.lo
    have a2 := ex_sz (w := .mul) he hh.lo hg.hi
    have a3 := ex_sz (w := .mul) he hh.hi hg.lo
    have a4 := ex_sz (w := .mul) he hh.hi hg.hi
    exact ⟨((a1.rmin a2).rmin a3).rmin a4, ((a1.rmax a2).rmax a3).rmax a4⟩
  | div =>
    have a1 := ex_sz (w := .div) he hh.lo hg.lo
    have a2 := ex_sz (w := .div) he hh.lo hg.hi
    have a3 := ex_sz (w := .div) he hh.hi hg.lo
    have a4 := ex_sz (w := .div) he hh.hi hg.hi
    exact ⟨((a1.rmin a2).rmin a3).rmin a4, ((a1.rmax a2).rmax a3).rmax a4⟩
  | least => exact ⟨(hh.lo.rmin hg.lo).mono e4 e4, (hh.hi.rmin hg.hi).mono e4 e4⟩
  | most => exact ⟨(hh.lo.rmax hg.lo).mono e4 e4, (hh.hi.rmax hg.hi).mono e4 e4⟩
/-- what of a spread comes in between -/
structure SpSz (e n d : Nat) (h g : Hd) : Prop where
  a : Sz (e * n) (e * d) (mx h.lo h.hi * g.off)
  b : Sz (e * n) (e * d) (mx g.lo g.hi * h.off)
  ab : Sz (e * n * (e * d) + e * n * (e * d)) (e * d * (e * d)) (mx h.lo h.hi * g.off + mx g.lo g.hi * h.off)
  c : Sz (n * n) (d * d) (h.off * g.off)
  m : Sz ((e * n * (e * d) + e * n * (e * d)) * (d * d) + n * n * (e * d * (e * d))) (e * d * (e * d) * (d * d)) (mx h.lo h.hi * g.off + mx g.lo g.hi * h.off + h.off * g.off)
  p : Sz (e * n * e) (e * d * e) (mx h.lo h.hi * g.off / ls g.lo g.hi)
  q : Sz (n * (e * d * e) + e * n * e * d) (d * (e * d * e)) (h.off + mx h.lo h.hi * g.off / ls g.lo g.hi)
  l : Sz (e * d + n * e) (e * d) (ls g.lo g.hi - g.off)
  r : Sz ((n * (e * d * e) + e * n * e * d) * (e * d)) (d * (e * d * e) * (e * d + n * e)) ((h.off + mx h.lo h.hi * g.off / ls g.lo g.hi) / (ls g.lo g.hi - g.off))
  s : Sz (n * d + n * d) (d * d) (h.off + g.off)
theorem sp_sz {e n d : Nat} {h g : Hd} (he : 1 ≤ e) (hd : 1 ≤ d) (hh : HSz e n d h) (hg : HSz e n d g) : SpSz e n d h g := by
  have x1 : 1 * 1 ≤ e * d := Nat.mul_le_mul he hd
  have x2 : 1 * 1 ≤ e * d * e := Nat.mul_le_mul x1 he
  have x3 : 1 * 1 ≤ d * (e * d * e) := Nat.mul_le_mul hd x2
  have x4 : 1 * 1 ≤ d * (e * d * e) * (e * d + n * e) := Nat.mul_le_mul x3 (by omega)
  have M := hh.lo.mx hh.hi
  have N := hg.lo.mx hg.hi
  have L := hg.lo.ls hg.hi
  have a := M.mul hg.off
  have b := N.mul hh.off
  have c := hh.off.mul hg.off
  have ab := a.add b
  have p := a.div L (by omega)
  have q := hh.off.add p
  have l := L.sub hg.off
  exact ⟨a, b, ab, c, ab.add c, p, q, l, q.div l (by omega), hh.off.add hg.off⟩
end Ra
end
section
set_option Elab.async false
set_option linter.all false
set_option maxRecDepth 100000
set_option maxHeartbeats 1000000
/-! == of fractions, of holds -/
namespace Ra
open PySem PySem.Spec PyProof.Rows L2 Mi
def dQ (x : Rat) : PyData := .tuple [.int x.num, .int (x.den : Int)]
theorem rat_ext {x y : Rat} (h1 : x.num = y.num) (h2 : x.den = y.den) : x = y := Rat.ext h1 h2
theorem eqv_q (x y : Rat) : PyData.eqv (dQ x) (dQ y) = decide (x = y) := by
  by_cases h : x = y
  · subst h
    simp [dQ, PyData.eqv, PyData.eqvAll]
  · have : ¬ (x.num = y.num ∧ (x.den : Int) = (y.den : Int)) := fun z => h (rat_ext z.1 (by have := z.2; omega))
    by_cases h1 : x.num = y.num
    · have h2 : ¬ ((x.den : Int) = (y.den : Int)) := fun z => this ⟨h1, z⟩
      have h3 : ¬ x.den = y.den := by omega
      simp [dQ, PyData.eqv, PyData.eqvAll, h]
      exact fun _ => h2
    · simp [dQ, PyData.eqv, PyData.eqvAll, h, h1]
theorem eq_q (neg : Bool) (x y : Rat) (S : Sto) : fEq neg (eQ x) (eQ y) S = .ok (.bl (if neg = true then !decide (x = y) else decide (x = y))) S := by
  rw [← eqv_q]
  have shp : ∀ q : Rat, SeqAt.shaped (dQ q) = true := fun q => by
    unfold SeqAt.shaped
    simp [dQ, PyData.canLay0, PyData.canLayAll0, PyData.depth, PyData.depthAll]
  show (if SeqAt.shaped (dQ x) = true ∧ SeqAt.shaped (dQ y) = true then Res.ok (PV.bl (if neg = true then !PyData.eqv (dQ x) (dQ y) else PyData.eqv (dQ x) (dQ y))) S else .bad) = _
  rw [if_pos ⟨shp x, shp y⟩]
def d3 (a b c : Rat) : PyData := .tuple [dQ a, dQ b, dQ c]
theorem eqv_3 (a b c a' b' c' : Rat) : PyData.eqv (d3 a b c) (d3 a' b' c') = decide (a = a' ∧ b = b' ∧ c = c') := by
  by_cases h1 : a = a' <;> by_cases h2 : b = b' <;> by_cases h3 : c = c' <;> simp [d3, PyData.eqv, PyData.eqvAll, eqv_q, h1, h2, h3]
theorem eq_3 (neg : Bool) (a b c a' b' c' : Rat) (S : Sto) : fEq neg (.tup [eQ a, eQ b, eQ c]) (.tup [eQ a', eQ b', eQ c']) S = .ok (.bl (if neg = true then !decide (a = a' ∧ b = b' ∧ c = c') else decide (a = a' ∧ b = b' ∧ c = c'))) S := by
  rw [← eqv_3]
  have shp : ∀ a b c : Rat, SeqAt.shaped (d3 a b c) = true := fun a b c => by
    unfold SeqAt.shaped
    simp [d3, dQ, PyData.canLay0, PyData.canLayAll0, PyData.depth, PyData.depthAll]
  show (if SeqAt.shaped (d3 a b c) = true ∧ SeqAt.shaped (d3 a' b' c') = true then Res.ok (PV.bl (if neg = true then !PyData.eqv (d3 a b c) (d3 a' b' c') else PyData.eqv (d3 a b c) (d3 a' b' c'))) S else .bad) = _
  rw [if_pos ⟨shp _ _ _, shp _ _ _⟩]
end Ra
end
section
set_option Elab.async false
set_option linter.all false
set_option maxRecDepth 100000
set_option maxHeartbeats 1000000
/-! the numbers of a format as a row: the plain law -/
namespace Ra
open PySem PySem.Spec PyProof.Rows L2 Mi
noncomputable def topR (f : Fm) : Rat := pw f.b (f.k + f.hi)
noncomputable def dnR (f : Fm) (x : Rat) : Rat := ((x / gapR f x).floor : Rat) * gapR f x
noncomputable def upR (f : Fm) (x : Rat) : Rat := ((-((-(x / gapR f x)).floor) : Int) : Rat) * gapR f x
def Ext (f : Fm) (r : Rat) : Prop := IsNum f r ∨ r = topR f ∨ r = -topR f
theorem Ext.neg {f : Fm} {r : Rat} (h : Ext f r) : Ext f (-r) := by
  rcases h with h | h | h
  · exact .inl h.neg
  · exact .inr (.inr (by rw [h]))
  · exact .inr (.inl (by rw [h]; grind))
theorem top_pos {f : Fm} (hf : FmOk f) : 0 < topR f := pw_pos (by have := hf.b0; omega) _
theorem ex_of {f : Fm} {x : Rat} (hf : FmOk f) (l : x.abs < topR f) : IsEx f.b f.k f.lo x (exO f x) ∧ exO f x ≤ f.hi := by
  have hb : 1 ≤ f.b := by have := hf.b0; omega
  have h := exO_of (f := f) (x := x) (E := f.hi) hf.lh l
  exact ⟨h, IsEx.le hb h hf.lh l⟩
theorem abs_ge {x o : Rat} (h : o ≤ x.abs) : x ≤ -o ∨ o ≤ x := by
  rw [abs_is'] at h
  split at h <;> grind
theorem ext_mul {f : Fm} {E j : Int} (hf : FmOk f) (h1 : f.lo ≤ E) (h2 : E ≤ f.hi) (b1 : -((f.b ^ f.k.toNat : Nat) : Int) ≤ j) (b2 : j ≤ ((f.b ^ f.k.toNat : Nat) : Int)) : Ext f ((j : Rat) * pw f.b E) := by
  have hb : 0 < f.b := by have := hf.b0; omega
  have hb1 : 1 ≤ f.b := hb
  obtain ⟨m, hm⟩ := gaps_num hf rfl h1 b1 b2
  have up := abs_int_mul (m := j) (g := pw f.b E) (N := f.b ^ f.k.toNat) (pw_pos hb E) b1 b2
  rw [← pw_k hf] at up
  have tp := pw_mono hb1 (show f.k + E ≤ f.k + f.hi by omega)
  generalize (j : Rat) * pw f.b E = r at hm up
  by_cases c : r.abs ≤ mostR f
  · exact .inl ⟨c, m, hm⟩
  · right
    have le : r.abs ≤ topR f := Rat.le_trans up tp
    by_cases q : r.abs < topR f
    · exfalso
      have ⟨e1, e2⟩ := ex_of hf q
      have l := e1.2.1
      rw [pw_k hf] at l
      have g0 : 0 < gapR f r := gap_pos hf r
      have hm' : r.abs = ((m.natAbs : Nat) : Rat) * gapR f r := by
        have a := abs_mul (m : Rat) (gapR f r)
        rw [← hm] at a
        have ga : (gapR f r).abs = gapR f r := by rw [abs_is']; grind
        have mc : ((m : Rat)).abs = ((m.natAbs : Nat) : Rat) := by
          rw [abs_is', ← Rat.intCast_natCast]
          have z : ((m : Rat) < 0) ↔ m < 0 := Rat.intCast_lt_intCast (a := m) (b := 0)
          by_cases h : m < 0
          · rw [if_pos (z.mpr h), ← Rat.intCast_neg]; congr 1; omega
          · rw [if_neg (fun q => h (z.mp q))]; congr 1; omega
        rw [a, ga, mc]
      have l2 : ((m.natAbs : Nat) : Rat) * gapR f r < ((f.b ^ f.k.toNat : Nat) : Rat) * gapR f r := by rw [← hm']; exact l
      have l3 : m.natAbs < f.b ^ f.k.toNat := Rat.natCast_lt_natCast.mp ((Rat.mul_lt_mul_right g0).mp l2)
      have l4 : ((m.natAbs : Nat) : Rat) * gapR f r ≤ ((f.b ^ f.k.toNat - 1 : Nat) : Rat) * gapR f r := Rat.mul_le_mul_of_nonneg_right (nat_le.mpr (by omega)) (Rat.le_of_lt g0)
      have l5 : ((f.b ^ f.k.toNat - 1 : Nat) : Rat) * gapR f r ≤ mostR f := Rat.mul_le_mul_of_nonneg_left (pw_mono hb1 e2) (nat_le.mpr (Nat.zero_le _))
      grind
    · have e : r.abs = topR f := by grind
      rw [abs_is'] at e
      split at e
      · right; grind
      · left; exact e
theorem num_mul {f : Fm} {r : Rat} {E : Int} (hf : FmOk f) (h : IsNum f r) (l : E ≤ exO f r) : ∃ j : Int, r = (j : Rat) * pw f.b E := by
  have hb : 0 < f.b := by have := hf.b0; omega
  obtain ⟨_, m, hm⟩ := h
  refine ⟨m * ((f.b ^ (exO f r - E).toNat : Nat) : Int), ?_⟩
  rw [Rat.intCast_mul, Rat.intCast_natCast, Rat.mul_assoc, Rat.mul_comm (((f.b ^ (exO f r - E).toNat : Nat) : Rat)), ← pw_sub hb l]
  exact hm
theorem num_lt {f : Fm} {r : Rat} (hf : FmOk f) (h : IsNum f r) : r.abs < topR f := by
  have := most_lt hf
  have := h.le
  unfold topR
  grind
theorem num_lo {f : Fm} {r : Rat} (hf : FmOk f) (h : IsNum f r) : ∃ j : Int, r = (j : Rat) * pw f.b f.lo := num_mul hf h (ex_of hf (num_lt hf h)).1.1
/-- a multiple of the gap at most x is at most the greatest one -/
theorem mul_dn {x g : Rat} {j : Int} (hg : 0 < g) (h : (j : Rat) * g ≤ x) : (j : Rat) * g ≤ ((x / g).floor : Rat) * g := by
  refine Rat.mul_le_mul_of_nonneg_right (int_le.mpr (Rat.le_floor_iff.mpr ?_)) (Rat.le_of_lt hg)
  have i := Rat.le_of_lt (Rat.inv_pos.mpr hg)
  have := Rat.mul_le_mul_of_nonneg_right h i
  have g0 : g ≠ 0 := by grind
  have e : ((j : Rat) * g) * g⁻¹ = (j : Rat) := by
    generalize (j : Rat) = t
    clear h i this
    grind
  rw [Rat.div_def]
  rw [e] at this
  exact this
theorem below {f : Fm} {x r : Rat} (hf : FmOk f) (l : x.abs < topR f) (h : Ext f r) (le : r ≤ x) : r ≤ dnR f x := by
  have hb : 0 < f.b := by have := hf.b0; omega
  have hb1 : 1 ≤ f.b := hb
  have ⟨ex, eh⟩ := ex_of hf l
  have g0 := gap_pos hf x
  have sub : ∀ (j : Int) (s : Rat), s = (j : Rat) * gapR f x → s ≤ x → s ≤ dnR f x := fun j s e q => by
    rw [e] at q ⊢
    exact mul_dn g0 q
  have hl := (abs_le (x := x) (o := x.abs)).mp Rat.le_refl
  rcases h with h | h | h
  · by_cases q : exO f x ≤ exO f r
    · obtain ⟨j, hj⟩ := num_mul hf h q
      exact sub j r hj le
    · have er := (ex_of hf (num_lt hf h)).1
      have lr := er.2.1
      have m := pw_mono hb1 (show f.k + exO f r ≤ f.k + (exO f x - 1) by omega)
      rcases ex.2.2 with z | z
      · have := er.1; omega
      · have hr := (abs_le (x := r) (o := r.abs)).mp Rat.le_refl
        rcases abs_ge z with z | z
        · grind
        · have e : pw f.b (f.k + (exO f x - 1)) = (((f.b ^ (f.k - 1).toNat : Nat) : Int) : Rat) * gapR f x := by
            unfold gapR
            rw [Rat.intCast_natCast, Rat.mul_comm, ← pw_add hb]
            congr 1
            have := hf.k0
            omega
          have := sub _ _ e z
          grind
  · grind
  · have e : -topR f = ((-((f.b ^ (f.k + f.hi - exO f x).toNat : Nat) : Int) : Int) : Rat) * gapR f x := by
      unfold topR gapR
      rw [Rat.intCast_neg, Rat.intCast_natCast, Rat.neg_mul, Rat.mul_comm, ← pw_add hb]
      congr 2
      have := hf.k0
      omega
    exact sub _ r (by rw [h, e]) le
theorem gap_neg (f : Fm) (x : Rat) : gapR f (-x) = gapR f x := gap_abs (abs_neg x)
theorem up_dn (f : Fm) (x : Rat) : upR f x = -dnR f (-x) := by
  unfold upR dnR
  rw [gap_neg, Rat.intCast_neg, Rat.neg_mul]
  have : -(x / gapR f x) = -x / gapR f x := by rw [Rat.div_def, Rat.div_def, Rat.neg_mul]
  rw [this]
theorem above {f : Fm} {x r : Rat} (hf : FmOk f) (l : x.abs < topR f) (h : Ext f r) (le : x ≤ r) : upR f x ≤ r := by
  have := below hf (x := -x) (r := -r) (by rw [abs_neg]; exact l) h.neg (by grind)
  rw [up_dn]
  grind
theorem dn_le {f : Fm} (x : Rat) (hf : FmOk f) : dnR f x ≤ x := by
  have g0 := gap_pos hf x
  have g : gapR f x ≠ 0 := by grind
  have := Rat.mul_le_mul_of_nonneg_right (Rat.floor_le (x / gapR f x)) (Rat.le_of_lt g0)
  unfold dnR
  have e : x / gapR f x * gapR f x = x := by rw [Rat.div_def]; grind
  rw [e] at this
  exact this
theorem le_up {f : Fm} (x : Rat) (hf : FmOk f) : x ≤ upR f x := by
  have := dn_le (-x) hf
  rw [up_dn]
  grind
theorem rnd_ext {f : Fm} {x : Rat} (w : Wy) (hf : FmOk f) (l : x.abs < topR f) : Ext f ((rnd w (x / gapR f x) : Int) * gapR f x) := by
  have ⟨ex, eh⟩ := ex_of hf l
  have l := ex.2.1
  rw [pw_k hf] at l
  have b := rnd_abs (w := w) (gap_pos hf x) (Rat.le_of_lt l)
  exact ext_mul hf ex.1 eh b.1 b.2
theorem dn_ext {f : Fm} {x : Rat} (hf : FmOk f) (l : x.abs < topR f) : Ext f (dnR f x) := rnd_ext .down hf l
theorem up_ext {f : Fm} {x : Rat} (hf : FmOk f) (l : x.abs < topR f) : Ext f (upR f x) := rnd_ext .up hf l
/-! rounding, told by the neighbours -/
noncomputable def rndR (f : Fm) (w : Wy) (x : Rat) : Rat := (rnd w (x / gapR f x) : Int) * gapR f x
theorem rnd_dn (f : Fm) (x : Rat) : rndR f .down x = dnR f x := rfl
theorem rnd_up (f : Fm) (x : Rat) : rndR f .up x = upR f x := rfl
theorem top_no {f : Fm} (hf : FmOk f) : ¬ IsNum f (topR f) ∧ ¬ IsNum f (-topR f) := by
  have t := top_pos hf
  constructor
  · intro h
    have := num_lt hf h
    rw [abs_is'] at this
    grind
  · intro h
    have := num_lt hf h
    rw [abs_neg, abs_is'] at this
    grind
theorem roundR_is {f : Fm} {w : Wy} {x : Rat} (hf : FmOk f) (l : x.abs < topR f) : roundR f w x = if rndR f w x = topR f ∨ rndR f w x = -topR f then none else some (rndR f w x) := by
  have e := rnd_ext w hf l
  have t := top_no hf
  have tp := top_pos hf
  have ml := most_lt hf
  unfold roundR
  show (if (rndR f w x).abs ≤ mostR f then some (rndR f w x) else none) = _
  have e : Ext f (rndR f w x) := e
  generalize rndR f w x = r at e
  have ml : mostR f < topR f := ml
  rcases e with e | e | e
  · rw [if_pos e.le, if_neg]
    rintro (q | q)
    · exact t.1 (q ▸ e)
    · exact t.2 (q ▸ e)
  · rw [if_neg, if_pos (.inl e)]
    rw [e, abs_is']
    grind
  · rw [if_neg, if_pos (.inr e)]
    rw [e, abs_neg, abs_is']
    grind
theorem round_far {f : Fm} {w : Wy} {x : Rat} (hf : FmOk f) (hx : Ok x) (l : topR f ≤ x.abs) : roundR f w x = none := by
  have hb : 0 < f.b := by have := hf.b0; omega
  have hb1 : 1 ≤ f.b := hb
  have ex := exO_is hf hx
  have eh : f.hi + 1 ≤ exO f x := by
    by_cases q : f.hi + 1 ≤ exO f x
    · exact q
    · have m := pw_mono hb1 (show f.k + exO f x ≤ f.k + f.hi by omega)
      have := ex.2.1
      unfold topR at l
      grind
  have g0 := gap_pos hf x
  have gi := Rat.le_of_lt (Rat.inv_pos.mpr g0)
  have z : pw f.b (f.k + (exO f x - 1)) ≤ x.abs := by
    rcases ex.2.2 with z | z
    · have := hf.lh; omega
    · exact z
  have e : pw f.b (f.k + (exO f x - 1)) = (((f.b ^ (f.k - 1).toNat : Nat) : Int) : Rat) * gapR f x := by
    unfold gapR
    rw [Rat.intCast_natCast, Rat.mul_comm, ← pw_add hb]
    congr 1
    have := hf.k0
    omega
  have tl : topR f ≤ pw f.b (f.k + (exO f x - 1)) := pw_mono hb1 (by omega)
  have ml : mostR f < topR f := most_lt hf
  generalize hN : (((f.b ^ (f.k - 1).toNat : Nat) : Int)) = N at e
  have far : topR f ≤ (rndR f w x).abs := by
    refine Rat.le_trans tl ?_
    rw [e]
    have ne : gapR f x ≠ 0 := by grind
    have can : ∀ t : Rat, (t * gapR f x) * (gapR f x)⁻¹ = t := fun t => by
      clear e z tl
      generalize gapR f x = g at ne
      grind
    rcases abs_ge z with q | q
    · have r1 : rnd w (x / gapR f x) ≤ -N := by
        refine rnd_le ?_
        rw [Rat.div_def, Rat.intCast_neg]
        rw [e, ← Rat.neg_mul] at q
        have := Rat.mul_le_mul_of_nonneg_right q gi
        rw [can] at this
        exact this
      have r2 : rndR f w x ≤ -((N : Rat) * gapR f x) := by
        have := Rat.mul_le_mul_of_nonneg_right (int_le.mpr r1) (Rat.le_of_lt g0)
        rw [Rat.intCast_neg, Rat.neg_mul] at this
        exact this
      rw [abs_is']
      split <;> grind
    · have r1 : N ≤ rnd w (x / gapR f x) := by
        refine ge_rnd ?_
        rw [Rat.div_def]
        rw [e] at q
        have := Rat.mul_le_mul_of_nonneg_right q gi
        rw [can] at this
        exact this
      have r2 : (N : Rat) * gapR f x ≤ rndR f w x := Rat.mul_le_mul_of_nonneg_right (int_le.mpr r1) (Rat.le_of_lt g0)
      rw [abs_is']
      split <;> grind
  unfold roundR
  rw [if_neg]
  show ¬ (rndR f w x).abs ≤ mostR f
  grind
/-- what is nearest -/
theorem rnd_zero {f : Fm} {x : Rat} (hf : FmOk f) : rndR f .zero x = if 0 ≤ x then dnR f x else upR f x := by
  have g0 := gap_pos hf x
  have z : 0 ≤ x / gapR f x ↔ 0 ≤ x := by
    have gi := Rat.inv_pos.mpr g0
    have e : x / gapR f x * gapR f x = x := by
      have : gapR f x ≠ 0 := by grind
      rw [Rat.div_def]; grind
    constructor
    · intro h
      have := Rat.mul_nonneg h (Rat.le_of_lt g0)
      rwa [e] at this
    · intro h
      rw [Rat.div_def]
      exact Rat.mul_nonneg h (Rat.le_of_lt gi)
  unfold rndR dnR upR
  simp only [rnd, z]
  split <;> rfl
theorem rnd_nearE {f : Fm} {x : Rat} (hf : FmOk f) (ne : dnR f x ≠ upR f x) :
    upR f x = dnR f x + gapR f x ∧ rndR f .near x = if x - dnR f x = upR f x - x then (if (x / gapR f x).floor % 2 = 0 then dnR f x else upR f x) else if x - dnR f x ≤ upR f x - x then dnR f x else upR f x := by
  have g0 := gap_pos hf x
  have gn : gapR f x ≠ 0 := by grind
  have e : x = x / gapR f x * gapR f x := by rw [Rat.div_def]; grind
  have h1 := Rat.floor_le (x / gapR f x)
  have h2 := Rat.lt_floor_add_one (x / gapR f x)
  have h3 := Rat.floor_le (-(x / gapR f x))
  have h4 := Rat.lt_floor_add_one (-(x / gapR f x))
  rw [cast_add1] at h2 h4
  have ne' : -((-(x / gapR f x)).floor) ≠ (x / gapR f x).floor := fun z => ne (by unfold dnR upR; rw [z])
  have hu : -((-(x / gapR f x)).floor) = (x / gapR f x).floor + 1 := by
    have a1 : ((x / gapR f x).floor : Rat) ≤ ((-((-(x / gapR f x)).floor) : Int) : Rat) := by rw [Rat.intCast_neg]; grind
    have a2 : ((-((-(x / gapR f x)).floor) : Int) : Rat) < (((x / gapR f x).floor + 2 : Int) : Rat) := by
      rw [Rat.intCast_neg, Rat.intCast_add]
      have : ((2 : Int) : Rat) = 2 := rfl
      rw [this]
      grind
    have b1 := int_le.mp a1
    have b2 := Rat.intCast_lt_intCast.mp a2
    omega
  have eu : upR f x = dnR f x + gapR f x := by
    unfold upR dnR
    rw [hu, cast_add1]
    grind
  refine ⟨eu, ?_⟩
  have c1 : (x - dnR f x = upR f x - x) ↔ 2 * (x / gapR f x - ((x / gapR f x).floor : Rat)) = 1 := by
    rw [eu]
    unfold dnR
    generalize gapR f x = g at *
    generalize x / g = q at *
    generalize (q.floor : Rat) = n at *
    subst e
    constructor
    · intro h
      have : (2 * (q - n) - 1) * g = 0 := by grind
      grind
    · intro h; grind
  have c2 : (x - dnR f x ≤ upR f x - x) ↔ 2 * (x / gapR f x - ((x / gapR f x).floor : Rat)) ≤ 1 := by
    rw [eu]
    unfold dnR
    generalize gapR f x = g at *
    generalize x / g = q at *
    generalize (q.floor : Rat) = n at *
    subst e
    have e1 : (2 * (q - n) - 1) * g = (q * g - n * g) - (n * g + g - q * g) := by grind
    constructor
    · intro h
      by_cases c : 2 * (q - n) ≤ 1
      · exact c
      · have := Rat.mul_pos (show 0 < 2 * (q - n) - 1 by grind) g0
        grind
    · intro h
      have := Rat.mul_nonneg (show 0 ≤ 1 - 2 * (q - n) by grind) (Rat.le_of_lt g0)
      have e2 : (1 - 2 * (q - n)) * g = (n * g + g - q * g) - (q * g - n * g) := by grind
      grind
  simp only [c1, c2]
  have e3 : upR f x = (((x / gapR f x).floor + 1 : Int) : Rat) * gapR f x := by unfold upR; rw [hu]
  unfold rndR
  simp only [rnd, nearI]
  by_cases q1 : 2 * (x / gapR f x - ((x / gapR f x).floor : Rat)) = 1
  · rw [if_pos q1, if_pos q1]
    split
    · rfl
    · exact e3.symm
  · rw [if_neg q1, if_neg q1]
    by_cases q2 : 2 * (x / gapR f x - ((x / gapR f x).floor : Rat)) ≤ 1
    · rw [if_pos q2, if_pos (by grind)]
      rfl
    · rw [if_neg q2, if_neg (by grind)]
      exact e3.symm
theorem near_same {f : Fm} {x : Rat} (hf : FmOk f) (e : dnR f x = upR f x) : rndR f .near x = dnR f x := by
  have a := dn_le x hf
  have b := le_up x hf
  have xe : x = dnR f x := by grind
  have g0 := gap_pos hf x
  have gn : gapR f x ≠ 0 := by grind
  have q : x / gapR f x = ((x / gapR f x).floor : Rat) := by
    have ex : x = x / gapR f x * gapR f x := by rw [Rat.div_def]; grind
    have xd : x = ((x / gapR f x).floor : Rat) * gapR f x := xe
    generalize ((x / gapR f x).floor : Rat) = t at xd ⊢
    generalize x / gapR f x = u at ex ⊢
    have : (u - t) * gapR f x = 0 := by grind
    generalize gapR f x = g at this gn
    clear ex xd xe e a b g0
    grind
  unfold rndR dnR
  congr 2
  have := rnd_int .near (x / gapR f x).floor
  rw [← q] at this
  exact this
end Ra
end
section
set_option Elab.async false
set_option linter.all false
set_option maxRecDepth 100000
set_option maxHeartbeats 1000000
/-! rows; monotony; neighbours -/
namespace Ra
open PySem PySem.Spec PyProof.Rows L2 Mi
theorem last_le {x d : Rat} : ∀ {L : List Rat}, L.Pairwise (· < ·) → d ∈ L → d ≤ x → (∀ r ∈ L, r ≤ x → r ≤ d) → (L.filter fun r => decide (r ≤ x)).getLast? = some d := by
  intro L
  induction L with
  | nil => intro _ h; cases h
  | cons a L ih =>
    intro hp hd hx hm
    obtain ⟨ha, hp⟩ := List.pairwise_cons.mp hp
    by_cases e : d = a
    · subst e
      have : L.filter (fun r => decide (r ≤ x)) = [] := by
        rw [List.filter_eq_nil_iff]
        intro r hr
        have l := ha r hr
        have := hm r (List.mem_cons_of_mem _ hr)
        simp only [decide_eq_true_eq]
        intro q
        have := this q
        grind
      rw [List.filter_cons_of_pos (by simpa using hx), this]
      rfl
    · have hd : d ∈ L := by
        rcases List.mem_cons.mp hd with z | z
        · exact absurd z e
        · exact z
      have ih := ih hp hd hx fun r hr => hm r (List.mem_cons_of_mem _ hr)
      have l := ha d hd
      rw [List.filter_cons_of_pos (by simp only [decide_eq_true_eq]; grind), List.getLast?_cons, ih]
      rfl
theorem first_ge {x d : Rat} : ∀ {L : List Rat}, L.Pairwise (· < ·) → d ∈ L → x ≤ d → (∀ r ∈ L, x ≤ r → d ≤ r) → (L.filter fun r => decide (x ≤ r)).head? = some d := by
  intro L
  induction L with
  | nil => intro _ h; cases h
  | cons a L ih =>
    intro hp hd hx hm
    obtain ⟨ha, hp⟩ := List.pairwise_cons.mp hp
    by_cases e : d = a
    · subst e
      rw [List.filter_cons_of_pos (by simpa using hx)]
      rfl
    · have hd : d ∈ L := by
        rcases List.mem_cons.mp hd with z | z
        · exact absurd z e
        · exact z
      have l := ha d hd
      have ih := ih hp hd hx fun r hr => hm r (List.mem_cons_of_mem _ hr)
      have n : ¬ x ≤ a := fun q => by
        have := hm a List.mem_cons_self q
        grind
      rw [List.filter_cons_of_neg (by simpa using n)]
      exact ih
structure Row (f : Fm) (xs : List Rat) : Prop where
  so : xs.Pairwise (· < ·)
  mem : ∀ q, q ∈ xs ↔ IsNum f q
noncomputable def every (f : Fm) (xs : List Rat) : List Rat := [-topR f] ++ xs ++ [topR f]
theorem Row.ext {f : Fm} {xs : List Rat} (h : Row f xs) (q : Rat) : q ∈ every f xs ↔ Ext f q := by
  unfold every Ext
  rw [← h.mem]
  simp
  grind
theorem num_btw {f : Fm} {r : Rat} (hf : FmOk f) (h : IsNum f r) : -topR f < r ∧ r < topR f := by
  have := num_lt hf h
  have a := (abs_le (x := r) (o := r.abs)).mp Rat.le_refl
  grind
theorem Row.every {f : Fm} {xs : List Rat} (hf : FmOk f) (h : Row f xs) : (every f xs).Pairwise (· < ·) := by
  have t := top_pos hf
  unfold Ra.every
  rw [List.pairwise_append, List.pairwise_append]
  refine ⟨⟨by simp, h.so, fun a ha b hb => ?_⟩, by simp, fun a ha b hb => ?_⟩
  · rw [List.mem_singleton.mp ha]
    exact (num_btw hf ((h.mem b).mp hb)).1
  · rw [List.mem_singleton.mp hb]
    rcases List.mem_append.mp ha with q | q
    · rw [List.mem_singleton.mp q]; grind
    · exact (num_btw hf ((h.mem a).mp q)).2
theorem Row.below {f : Fm} {xs : List Rat} {x : Rat} (hf : FmOk f) (h : Row f xs) (l : x.abs < topR f) : ((Ra.every f xs).filter fun r => decide (r ≤ x)).getLast? = some (dnR f x) :=
  last_le (h.every hf) ((h.ext _).mpr (dn_ext hf l)) (dn_le x hf) fun r hr q => Ra.below hf l ((h.ext _).mp hr) q
theorem Row.above {f : Fm} {xs : List Rat} {x : Rat} (hf : FmOk f) (h : Row f xs) (l : x.abs < topR f) : ((Ra.every f xs).filter fun r => decide (x ≤ r)).head? = some (upR f x) :=
  first_ge (h.every hf) ((h.ext _).mpr (up_ext hf l)) (le_up x hf) fun r hr q => Ra.above hf l ((h.ext _).mp hr) q
theorem most_num {f : Fm} (hf : FmOk f) : IsNum f (mostR f) := by
  have hb : 0 < f.b := by have := hf.b0; omega
  have n := most_nn f hf
  have a : (mostR f).abs = mostR f := by rw [abs_is']; grind
  refine ⟨by rw [a]; exact Rat.le_refl, num_of (m := ((f.b ^ f.k.toNat - 1 : Nat) : Int)) (E := f.hi) hf (by rw [Rat.intCast_natCast]; rfl) hf.lh ?_⟩
  rw [a]
  exact most_lt hf
theorem le_last {L : List Rat} (h : L.Pairwise (· < ·)) {d : Rat} (hd : d ∈ L) (m : ∀ r ∈ L, r ≤ d) : L.getLast? = some d := by
  have := last_le h hd Rat.le_refl fun r hr _ => m r hr
  rwa [List.filter_eq_self.mpr fun r hr => by simpa using m r hr] at this
theorem Row.last {f : Fm} {xs : List Rat} (hf : FmOk f) (h : Row f xs) : xs.getLast? = some (mostR f) :=
  le_last h.so ((h.mem _).mpr (most_num hf)) fun r hr => by
    have := ((h.mem r).mp hr).le
    have a := (abs_le (x := r) (o := r.abs)).mp Rat.le_refl
    grind
theorem zero_num {f : Fm} (hf : FmOk f) : IsNum f 0 := by
  have n := most_nn f hf
  refine ⟨by rw [abs_is']; grind, 0, ?_⟩
  have : ((0 : Int) : Rat) = 0 := rfl
  rw [this, Rat.zero_mul]
/-- order is kept -/
theorem rnd_mono {f : Fm} {w : Wy} {x y : Rat} (hf : FmOk f) (lx : x.abs < topR f) (ly : y.abs < topR f) (le : x ≤ y) : rndR f w x ≤ rndR f w y := by
  have dx := dn_le x hf
  have dy := dn_le y hf
  have ux := le_up x hf
  have uy := le_up y hf
  have exd := dn_ext hf lx
  have exu := up_ext hf lx
  have eyd := dn_ext hf ly
  have eyu := up_ext hf ly
  have d1 : dnR f x ≤ dnR f y := below hf ly exd (by grind)
  have u1 : upR f x ≤ upR f y := above hf lx eyu (by grind)
  cases w with
  | down => exact d1
  | up => exact u1
  | zero =>
    rw [rnd_zero hf, rnd_zero hf]
    have e0 : Ext f 0 := .inl (zero_num hf)
    by_cases hx : 0 ≤ x
    · rw [if_pos hx, if_pos (by grind)]; exact d1
    · rw [if_neg hx]
      by_cases hy : 0 ≤ y
      · rw [if_pos hy]
        have a := above hf lx e0 (by grind)
        have b := below hf ly e0 hy
        grind
      · rw [if_neg hy]; exact u1
  | near =>
    have nr : ∀ z, z.abs < topR f → (rndR f .near z = dnR f z ∧ z - dnR f z ≤ upR f z - z) ∨ (rndR f .near z = upR f z ∧ upR f z - z ≤ z - dnR f z) := fun z lz => by
      by_cases e : dnR f z = upR f z
      · left
        have a := dn_le z hf
        have b := le_up z hf
        exact ⟨near_same hf e, by grind⟩
      · have ⟨_, h⟩ := rnd_nearE hf e
        rw [h]
        by_cases c1 : z - dnR f z = upR f z - z
        · rw [if_pos c1]
          split
          · exact .inl ⟨rfl, by grind⟩
          · exact .inr ⟨rfl, by grind⟩
        · rw [if_neg c1]
          by_cases c2 : z - dnR f z ≤ upR f z - z
          · rw [if_pos c2]; exact .inl ⟨rfl, c2⟩
          · rw [if_neg c2]; exact .inr ⟨rfl, by grind⟩
    by_cases xy : x = y
    · rw [xy]; exact Rat.le_refl
    · by_cases sep : upR f x ≤ y
      · have s := below hf ly exu sep
        rcases nr x lx with ⟨a, _⟩ | ⟨a, _⟩ <;> rcases nr y ly with ⟨b, _⟩ | ⟨b, _⟩ <;> rw [a, b] <;> grind
      · have q1 : dnR f y ≤ x := by
          by_cases q : dnR f y ≤ x
          · exact q
          · have := above hf lx eyd (by grind)
            grind
        have d2 := below hf lx eyd q1
        have u2 := above hf ly exu (by grind)
        have de : dnR f x = dnR f y := by grind
        have ue : upR f x = upR f y := by grind
        rcases nr x lx with ⟨a, a2⟩ | ⟨a, a2⟩ <;> rcases nr y ly with ⟨b, b2⟩ | ⟨b, b2⟩ <;> rw [a, b] <;> grind
theorem round_mono {f : Fm} {w : Wy} {x y r s : Rat} (hf : FmOk f) (ox : Ok x) (oy : Ok y) (le : x ≤ y) (hr : roundR f w x = some r) (hs : roundR f w y = some s) : r ≤ s := by
  have near : ∀ {z t : Rat}, Ok z → roundR f w z = some t → z.abs < topR f := fun {z t} o h => by
    by_cases q : z.abs < topR f
    · exact q
    · rw [round_far hf o (by grind)] at h; cases h
  have lx := near ox hr
  have ly := near oy hs
  have m := rnd_mono (w := w) hf lx ly le
  rw [roundR_is hf lx] at hr
  rw [roundR_is hf ly] at hs
  split at hr
  · cases hr
  · split at hs
    · cases hs
    · injection hr with hr
      injection hs with hs
      rw [← hr, ← hs]
      exact m
/-- two numbers are at least the least one apart -/
theorem num_gap {f : Fm} {r s : Rat} (hf : FmOk f) (hr : IsNum f r) (hs : IsNum f s) (l : r < s) : r + pw f.b f.lo ≤ s := by
  have p := pw_pos (b := f.b) (by have := hf.b0; omega) f.lo
  obtain ⟨i, rfl⟩ := num_lo hf hr
  obtain ⟨j, rfl⟩ := num_lo hf hs
  have l2 : i < j := Rat.intCast_lt_intCast.mp ((Rat.mul_lt_mul_right p).mp l)
  have := Rat.mul_le_mul_of_nonneg_right (int_le.mpr (show i + 1 ≤ j by omega)) (Rat.le_of_lt p)
  rw [cast_add1] at this
  grind
theorem pw_top {f : Fm} (hf : FmOk f) : mostR f + pw f.b f.lo ≤ topR f := by
  have hb : 0 < f.b := by have := hf.b0; omega
  have h1 := pw_mono (b := f.b) hb hf.lh
  have e : topR f = mostR f + pw f.b f.hi := by
    unfold topR mostR
    rw [pw_k hf]
    have : ((f.b ^ f.k.toNat : Nat) : Rat) = ((f.b ^ f.k.toNat - 1 : Nat) : Rat) + 1 := by
      have p := Nat.pow_pos (n := f.k.toNat) hb
      have : f.b ^ f.k.toNat = (f.b ^ f.k.toNat - 1) + 1 := by omega
      conv => lhs; rw [this]
      rw [Rat.natCast_add]
      rfl
    rw [this]
    grind
  grind
theorem step_near {f : Fm} {x y : Rat} (hf : FmOk f) (h : IsNum f x) (l1 : x - pw f.b f.lo < y) (l2 : y < x + pw f.b f.lo) : y.abs < topR f := by
  have t := pw_top hf
  have a := (abs_le (x := x) (o := mostR f)).mp h.le
  rw [abs_is']
  split <;> grind
/-- the next one up -/
theorem Row.up {f : Fm} {xs : List Rat} {x y : Rat} {i : Nat} (hf : FmOk f) (h : Row f xs) (e : xs[i]? = some x) (l1 : x < y) (l2 : y < x + pw f.b f.lo) : roundR f .up y = xs[i + 1]? := by
  have nx : IsNum f x := (h.mem x).mp (List.mem_of_getElem? e)
  have p := pw_pos (b := f.b) (by have := hf.b0; omega) f.lo
  have ly : y.abs < topR f := step_near hf nx (by grind) l2
  have eu := up_ext hf ly
  have uy := le_up y hf
  have ml : mostR f < topR f := most_lt hf
  have am := (abs_le (x := x) (o := mostR f)).mp nx.le
  rw [roundR_is hf ly, rnd_up]
  have so := List.pairwise_iff_getElem.mp h.so
  obtain ⟨hi, ei⟩ := List.getElem?_eq_some_iff.mp e
  by_cases hl : i + 1 < xs.length
  · rw [List.getElem?_eq_getElem hl]
    have s1 : x < xs[i + 1] := by rw [← ei]; exact so i (i + 1) hi hl (by omega)
    have ns : IsNum f xs[i + 1] := (h.mem _).mp (List.getElem_mem hl)
    have g := num_gap hf nx ns s1
    have le := Ra.above hf ly (.inl ns) (by grind)
    have bs := num_btw hf ns
    have nu : IsNum f (upR f y) := by
      rcases eu with q | q | q
      · exact q
      · grind
      · grind
    obtain ⟨j, hj, ej⟩ := List.getElem_of_mem ((h.mem _).mpr nu)
    have ge : xs[i + 1] ≤ upR f y := by
      rcases Nat.lt_trichotomy j (i + 1) with q | q | q
      · exfalso
        rcases Nat.lt_trichotomy j i with z | z | z
        · have := so j i hj hi z
          grind
        · subst z; grind
        · omega
      · subst q; grind
      · have := so (i + 1) j hl hj q
        grind
    have eq : upR f y = xs[i + 1] := by grind
    rw [if_neg, eq]
    rw [eq]
    grind
  · rw [List.getElem?_eq_none (by omega)]
    rcases eu with q | q | q
    · exfalso
      obtain ⟨j, hj, ej⟩ := List.getElem_of_mem ((h.mem _).mpr q)
      rcases Nat.lt_trichotomy j i with z | z | z
      · have := so j i hj hi z
        grind
      · subst z; grind
      · omega
    · rw [if_pos (.inl q)]
    · rw [if_pos (.inr q)]
theorem Row.down {f : Fm} {xs : List Rat} {x y : Rat} {i : Nat} (hf : FmOk f) (h : Row f xs) (e : xs[i]? = some x) (l1 : y < x) (l2 : x - pw f.b f.lo < y) : roundR f .down y = if 0 < i then xs[i - 1]? else none := by
  have nx : IsNum f x := (h.mem x).mp (List.mem_of_getElem? e)
  have p := pw_pos (b := f.b) (by have := hf.b0; omega) f.lo
  have ly : y.abs < topR f := step_near hf nx l2 (by grind)
  have eu := dn_ext hf ly
  have uy := dn_le y hf
  have ml : mostR f < topR f := most_lt hf
  have am := (abs_le (x := x) (o := mostR f)).mp nx.le
  rw [roundR_is hf ly, rnd_dn]
  have so := List.pairwise_iff_getElem.mp h.so
  obtain ⟨hi, ei⟩ := List.getElem?_eq_some_iff.mp e
  by_cases hl : 0 < i
  · have hm : i - 1 < xs.length := by omega
    rw [if_pos hl, List.getElem?_eq_getElem hm]
    have s1 : xs[i - 1] < x := by rw [← ei]; exact so (i - 1) i hm hi (by omega)
    have ns : IsNum f xs[i - 1] := (h.mem _).mp (List.getElem_mem hm)
    have g := num_gap hf ns nx s1
    have le := Ra.below hf ly (.inl ns) (by grind)
    have bs := num_btw hf ns
    have nu : IsNum f (dnR f y) := by
      rcases eu with q | q | q
      · exact q
      · grind
      · grind
    obtain ⟨j, hj, ej⟩ := List.getElem_of_mem ((h.mem _).mpr nu)
    have ge : dnR f y ≤ xs[i - 1] := by
      rcases Nat.lt_trichotomy j (i - 1) with q | q | q
      · have := so j (i - 1) hj hm q
        grind
      · subst q; grind
      · exfalso
        rcases Nat.lt_trichotomy j i with z | z | z
        · omega
        · subst z; grind
        · have := so i j hi hj z
          grind
    have eq : dnR f y = xs[i - 1] := by grind
    rw [if_neg, eq]
    rw [eq]
    grind
  · rw [if_neg hl]
    rcases eu with q | q | q
    · exfalso
      obtain ⟨j, hj, ej⟩ := List.getElem_of_mem ((h.mem _).mpr q)
      rcases Nat.lt_trichotomy j i with z | z | z
      · omega
      · subst z; grind
      · have := so i j hi hj z
        grind
    · rw [if_pos (.inl q)]
    · rw [if_pos (.inr q)]
end Ra
end
section
set_option Elab.async false
set_option linter.all false
set_option maxRecDepth 100000
set_option maxHeartbeats 1000000
/-! the row, from the numbers laid one by one -/
namespace Ra
open PySem PySem.Spec PyProof.Rows L2 Mi
def Laid (f : Fm) (q : Rat) : Prop := q = 0 ∨ ∃ (e : Int) (m : Nat), f.lo ≤ e ∧ e ≤ f.hi ∧ 1 ≤ m ∧ m < f.b ^ f.k.toNat ∧ (q = (m : Rat) * pw f.b e ∨ q = -((m : Rat) * pw f.b e))
theorem laid_num {f : Fm} {e : Int} {m : Nat} (hf : FmOk f) (h1 : f.lo ≤ e) (h2 : e ≤ f.hi) (h3 : m < f.b ^ f.k.toNat) : IsNum f ((m : Rat) * pw f.b e) := by
  have hb : 0 < f.b := by have := hf.b0; omega
  have p := pw_pos hb e
  have nn : 0 ≤ (m : Rat) * pw f.b e := Rat.mul_nonneg (nat_le.mpr (Nat.zero_le _)) (Rat.le_of_lt p)
  have a : ((m : Rat) * pw f.b e).abs = (m : Rat) * pw f.b e := by rw [abs_is']; grind
  have l1 : (m : Rat) * pw f.b e ≤ ((f.b ^ f.k.toNat - 1 : Nat) : Rat) * pw f.b e := Rat.mul_le_mul_of_nonneg_right (nat_le.mpr (by omega)) (Rat.le_of_lt p)
  have l2 : ((f.b ^ f.k.toNat - 1 : Nat) : Rat) * pw f.b e ≤ mostR f := Rat.mul_le_mul_of_nonneg_left (pw_mono hb h2) (nat_le.mpr (Nat.zero_le _))
  refine ⟨by rw [a]; exact Rat.le_trans l1 l2, num_of (m := (m : Int)) (E := e) hf (by rw [Rat.intCast_natCast]) h1 ?_⟩
  rw [a, pw_k hf, Rat.mul_comm, Rat.mul_comm (((f.b ^ f.k.toNat : Nat) : Rat))]
  exact Rat.mul_lt_mul_of_pos_left (Rat.natCast_lt_natCast.mpr h3) p
theorem laid_is {f : Fm} (hf : FmOk f) (q : Rat) : Laid f q ↔ IsNum f q := by
  have hb : 0 < f.b := by have := hf.b0; omega
  constructor
  · rintro (h | ⟨e, m, h1, h2, h3, h4, h5 | h5⟩)
    · rw [h]; exact zero_num hf
    · rw [h5]; exact laid_num hf h1 h2 h4
    · rw [h5]; exact (laid_num hf h1 h2 h4).neg
  · intro h
    have ⟨ex, eh⟩ := ex_of hf (num_lt hf h)
    obtain ⟨l, m, hm⟩ := h
    have g0 : 0 < gapR f q := gap_pos hf q
    by_cases z : m = 0
    · left
      rw [hm, z]
      have : ((0 : Int) : Rat) = 0 := rfl
      rw [this, Rat.zero_mul]
    · right
      have lt := ex.2.1
      rw [pw_k hf] at lt
      have lt : q.abs < ((f.b ^ f.k.toNat : Nat) : Rat) * gapR f q := lt
      have ab : ∀ n : Nat, (n : Rat) * gapR f q < ((f.b ^ f.k.toNat : Nat) : Rat) * gapR f q → n < f.b ^ f.k.toNat := fun n h => Rat.natCast_lt_natCast.mp ((Rat.mul_lt_mul_right g0).mp h)
      have al := (abs_le (x := q) (o := q.abs)).mp Rat.le_refl
      refine ⟨exO f q, m.natAbs, ex.1, eh, by omega, ?_, ?_⟩
      · refine ab _ ?_
        by_cases s : 0 ≤ m
        · have : ((m.natAbs : Nat) : Rat) = (m : Rat) := by rw [← Rat.intCast_natCast]; congr 1; omega
          rw [this, ← hm]
          grind
        · have : ((m.natAbs : Nat) : Rat) = -(m : Rat) := by rw [← Rat.intCast_natCast, ← Rat.intCast_neg]; congr 1; omega
          rw [this, Rat.neg_mul, ← hm]
          grind
      · by_cases s : 0 ≤ m
        · left
          have : ((m.natAbs : Nat) : Rat) = (m : Rat) := by rw [← Rat.intCast_natCast]; congr 1; omega
          rw [this]
          exact hm
        · right
          have : ((m.natAbs : Nat) : Rat) = -(m : Rat) := by rw [← Rat.intCast_natCast, ← Rat.intCast_neg]; congr 1; omega
          rw [this, Rat.neg_mul, Rat.neg_neg]
          exact hm
def btm (f : Fm) : Nat := f.b ^ (-f.lo).toNat
theorem btm_lo {f : Fm} (hf : FmOk f) : ∃ N : Nat, pw f.b f.lo * (btm f : Rat) = (N : Rat) := by
  have hb : 0 < f.b := by have := hf.b0; omega
  by_cases h : 0 ≤ f.lo
  · refine ⟨f.b ^ f.lo.natAbs, ?_⟩
    have : (-f.lo).toNat = 0 := by omega
    unfold btm pw
    rw [this, if_pos h, Nat.pow_zero]
    have o : ((1 : Nat) : Rat) = 1 := rfl
    rw [o, Rat.mul_one]
  · refine ⟨1, ?_⟩
    unfold btm
    rw [← pw_add hb]
    have : f.lo + ((-f.lo).toNat : Int) = 0 := by omega
    rw [this]
    unfold pw
    rw [if_pos (by omega)]
    rfl
def topI (B : Nat) (q : Rat) : Int := (q.num * (B : Int)).fdiv (q.den : Int)
theorem top_is {f : Fm} {q : Rat} (hf : FmOk f) (h : IsNum f q) : q.num * (btm f : Int) = topI (btm f) q * (q.den : Int) ∧ q * (btm f : Rat) = (topI (btm f) q : Rat) := by
  obtain ⟨j, hj⟩ := num_lo hf h
  obtain ⟨N, hN⟩ := btm_lo hf
  have e : q * (btm f : Rat) = ((j * (N : Int) : Int) : Rat) := by
    rw [Rat.intCast_mul, Rat.intCast_natCast, ← hN, ← Rat.mul_assoc, ← hj]
  have e2 : q.num * (btm f : Int) = j * (N : Int) * (q.den : Int) := by
    rw [← Rat.intCast_inj, Rat.intCast_mul, Rat.intCast_mul, num_is, Rat.intCast_natCast, Rat.intCast_natCast, ← e]
    grind
  have e3 : topI (btm f) q = j * (N : Int) := by
    unfold topI
    rw [e2]
    exact Int.mul_fdiv_cancel _ (den0 q)
  rw [e3]
  exact ⟨e2, e⟩
theorem btm_pos {f : Fm} (hf : FmOk f) : 0 < btm f := Nat.pow_pos (by have := hf.b0; omega)
theorem back_is {f : Fm} {q : Rat} (hf : FmOk f) (h : IsNum f q) : Rat.divInt (topI (btm f) q) (btm f) = q := by
  have e := (top_is hf h).2
  have n := nat_ne (btm_pos hf)
  rw [div_eq, ← e, Rat.intCast_natCast]
  generalize (btm f : Rat) = t at n
  clear e
  rw [Rat.div_def]
  grind
theorem div_lt {B : Nat} {a b : Int} (hB : 0 < B) (h : a < b) : Rat.divInt a B < Rat.divInt b B := by
  have p : (0 : Rat) < (B : Rat) := by
    have := (Rat.natCast_lt_natCast (a := 0) (b := B)).mpr hB
    exact this
  rw [div_eq, div_eq, Rat.intCast_natCast, Rat.div_def, Rat.div_def]
  exact Rat.mul_lt_mul_of_pos_right (Rat.intCast_lt_intCast.mpr h) (Rat.inv_pos.mpr p)
theorem row_of {f : Fm} {qs : List Rat} {ts : List Int} (hf : FmOk f) (nd : qs.Nodup) (mem : ∀ q, q ∈ qs ↔ Laid f q) (pm : ts.Perm (qs.map (topI (btm f)))) (so : ts.Pairwise (· ≤ ·)) : Row f (ts.map fun t => Rat.divInt t (btm f)) := by
  have mem' : ∀ q, q ∈ qs ↔ IsNum f q := fun q => (mem q).trans (laid_is hf q)
  have nt : ts.Nodup := by
    refine pm.nodup_iff.mpr ?_
    unfold List.Nodup
    rw [List.pairwise_map]
    have : ∀ a b, a ∈ qs → b ∈ qs → a ≠ b → topI (btm f) a ≠ topI (btm f) b := fun a b ha hb ne z => ne (by
      rw [← back_is hf ((mem' a).mp ha), z, back_is hf ((mem' b).mp hb)])
    exact List.Pairwise.imp_of_mem (fun ha hb ne => this _ _ ha hb ne) nd
  have lt : ts.Pairwise (· < ·) := by
    have := List.pairwise_and_iff.mpr ⟨so, nt⟩
    exact this.imp fun h => by have := h.1; have := h.2; omega
  refine ⟨?_, fun q => ?_⟩
  · rw [List.pairwise_map]
    exact lt.imp fun h => div_lt (btm_pos hf) h
  · rw [← mem', List.mem_map]
    constructor
    · rintro ⟨t, ht, rfl⟩
      obtain ⟨q, hq, rfl⟩ := List.mem_map.mp (pm.mem_iff.mp ht)
      rw [back_is hf ((mem' q).mp hq)]
      exact hq
    · intro hq
      exact ⟨topI (btm f) q, pm.mem_iff.mpr (List.mem_map.mpr ⟨q, hq, rfl⟩), back_is hf ((mem' q).mp hq)⟩
/-! the keys -/
def putQ (qs : List Rat) (q : Rat) : List Rat := if q ∈ qs then qs else qs ++ [q]
theorem putQ_nd {qs : List Rat} {q : Rat} (h : qs.Nodup) : (putQ qs q).Nodup := by
  unfold putQ
  split
  · exact h
  · rename_i n
    rw [List.nodup_append]
    exact ⟨h, by simp, fun a ha b hb z => n (by rw [← List.mem_singleton.mp hb, ← z]; exact ha)⟩
theorem putQ_mem {qs : List Rat} {q a : Rat} : a ∈ putQ qs q ↔ a ∈ qs ∨ a = q := by
  unfold putQ
  split
  · rename_i h
    exact ⟨.inl, fun z => z.elim id (fun z => z ▸ h)⟩
  · simp
theorem putQ_len {qs : List Rat} {q : Rat} : qs.length ≤ (putQ qs q).length ∧ (putQ qs q).length ≤ qs.length + 1 := by
  unfold putQ
  split <;> simp
def kq (q : Rat) : List Int := [q.num, (q.den : Int)]
theorem kq_inj {a b : Rat} (h : kq a = kq b) : a = b := by
  unfold kq at h
  simp only [List.cons.injEq, and_true] at h
  exact Rat.ext h.1 (by omega)
end Ra
end
section
set_option Elab.async false
set_option linter.all false
set_option maxRecDepth 100000
set_option maxHeartbeats 1000000
/-! offs of rounded numbers, numbers a gap apart, how many there are -/
namespace Ra
open PySem PySem.Spec PyProof.Rows L2 Mi
theorem so_uniq : ∀ {a b : List Rat}, a.Pairwise (· < ·) → b.Pairwise (· < ·) → (∀ q, q ∈ a ↔ q ∈ b) → a = b
  | [], [], _, _, _ => rfl
  | [], y :: b, _, _, h => absurd ((h y).mpr List.mem_cons_self) (by simp)
  | x :: a, [], _, _, h => absurd ((h x).mp List.mem_cons_self) (by simp)
  | x :: a, y :: b, ha, hb, h => by
    obtain ⟨a1, a2⟩ := List.pairwise_cons.mp ha
    obtain ⟨b1, b2⟩ := List.pairwise_cons.mp hb
    have e : x = y := by
      rcases List.mem_cons.mp ((h x).mp List.mem_cons_self) with q | q
      · exact q
      · rcases List.mem_cons.mp ((h y).mpr List.mem_cons_self) with z | z
        · exact z.symm
        · have := a1 y z
          have := b1 x q
          grind
    subst e
    rw [so_uniq a2 b2 fun q => ?_]
    have hq := h q
    rw [List.mem_cons, List.mem_cons] at hq
    constructor
    · intro z
      rcases hq.mp (.inr z) with w | w
      · have := a1 q z
        grind
      · exact w
    · intro z
      rcases hq.mpr (.inr z) with w | w
      · have := b1 q z
        grind
      · exact w
theorem round_off {f : Fm} {w : Wy} {z r : Rat} (hf : FmOk f) (h : roundR f w z = some r) : (r - z).abs ≤ offR f w z := by
  have g0 := gap_pos hf z
  have e : r = rndR f w z := by
    unfold roundR at h
    split at h
    · injection h with h
      exact h.symm
    · cases h
  rw [e]
  unfold rndR
  rw [div_off hf, abs_mul]
  have ga : (gapR f z).abs = gapR f z := by rw [abs_is']; grind
  rw [ga]
  unfold offR
  split
  · rename_i q
    subst q
    have := Rat.mul_le_mul_of_nonneg_right (rnd_near (z / gapR f z)) (Rat.le_of_lt g0)
    grind
  · have := Rat.mul_le_mul_of_nonneg_right (rnd_off w (z / gapR f z)) (Rat.le_of_lt g0)
    grind
theorem ex_mono {f : Fm} {x y : Rat} (hf : FmOk f) (ly : y.abs < topR f) (l : x.abs ≤ y.abs) : exO f x ≤ exO f y := by
  have hb : 1 ≤ f.b := by have := hf.b0; omega
  have ⟨h, _⟩ := ex_of hf ly
  have h2 : x.abs < pw f.b (f.k + exO f y) := by have := h.2.1; grind
  exact IsEx.le hb (exO_of h.1 h2) h.1 h2
/-- a positive number, by its gaps -/
theorem num_pos_is {f : Fm} {n : Rat} (hf : FmOk f) (h : IsNum f n) (p : 0 < n) : ∃ m : Nat, 1 ≤ m ∧ m < f.b ^ f.k.toNat ∧ n = (m : Rat) * gapR f n ∧ n + gapR f n = ((m + 1 : Nat) : Rat) * gapR f n ∧ n + gapR f n ≤ pw f.b (f.k + exO f n) := by
  have ⟨ex, eh⟩ := ex_of hf (num_lt hf h)
  have g0 := gap_pos hf n
  obtain ⟨_, j, hj⟩ := h
  have j0 : 0 < j := by
    by_cases z : 0 < j
    · exact z
    · have : (j : Rat) ≤ ((0 : Int) : Rat) := int_le.mpr (by omega)
      have := Rat.mul_le_mul_of_nonneg_right this (Rat.le_of_lt g0)
      have z0 : ((0 : Int) : Rat) = 0 := rfl
      rw [z0, Rat.zero_mul, ← hj] at this
      grind
  have jc : ((j.toNat : Nat) : Rat) = (j : Rat) := by rw [← Rat.intCast_natCast]; congr 1; omega
  have lt := ex.2.1
  rw [pw_k hf] at lt
  have an : n.abs = n := by rw [abs_is']; grind
  rw [an] at lt
  have lt : n < ((f.b ^ f.k.toNat : Nat) : Rat) * gapR f n := lt
  have e1 : n = ((j.toNat : Nat) : Rat) * gapR f n := by rw [jc]; exact hj
  have mlt : j.toNat < f.b ^ f.k.toNat := by
    rw [e1] at lt
    have e2 : gapR f (((j.toNat : Nat) : Rat) * gapR f n) = gapR f n := by rw [← e1]
    rw [e2] at lt
    exact Rat.natCast_lt_natCast.mp ((Rat.mul_lt_mul_right g0).mp lt)
  have e3 : n + gapR f n = ((j.toNat + 1 : Nat) : Rat) * gapR f n := by
    rw [Rat.natCast_add]
    have o : ((1 : Nat) : Rat) = 1 := rfl
    rw [o]
    conv => lhs; lhs; rw [e1]
    grind
  refine ⟨j.toNat, by omega, mlt, e1, e3, ?_⟩
  rw [e3, pw_k hf]
  exact Rat.mul_le_mul_of_nonneg_right (nat_le.mpr (by omega)) (Rat.le_of_lt g0)
theorem next_gap {f : Fm} {xs : List Rat} {i : Nat} {n t : Rat} (hf : FmOk f) (h : Row f xs) (e : xs[i]? = some n) (et : xs[i + 1]? = some t) (n0 : 0 < n) : t = n + gapR f n := by
  have hn : IsNum f n := (h.mem n).mp (List.mem_of_getElem? e)
  have ht : IsNum f t := (h.mem t).mp (List.mem_of_getElem? et)
  have ⟨ex, eh⟩ := ex_of hf (num_lt hf hn)
  have g0 := gap_pos hf n
  obtain ⟨m, m1, m2, e1, e2, e3⟩ := num_pos_is hf hn n0
  have so := List.pairwise_iff_getElem.mp h.so
  obtain ⟨hi, ei⟩ := List.getElem?_eq_some_iff.mp e
  obtain ⟨hi1, ei1⟩ := List.getElem?_eq_some_iff.mp et
  have lt : n < t := by rw [← ei, ← ei1]; exact so i (i + 1) hi hi1 (by omega)
  have an : n.abs = n := by rw [abs_is']; grind
  have at_ : t.abs = t := by rw [abs_is']; grind
  have em := ex_mono hf (num_lt hf ht) (x := n) (y := t) (by rw [an, at_]; grind)
  obtain ⟨j, hj⟩ := num_mul hf ht em
  have hj : t = (j : Rat) * gapR f n := hj
  have ge : n + gapR f n ≤ t := by
    rw [e1, hj] at lt
    have e4 : gapR f ((m : Rat) * gapR f n) = gapR f n := by rw [← e1]
    have lt2 : ((m : Int) : Rat) < (j : Rat) := by
      rw [Rat.intCast_natCast]
      exact (Rat.mul_lt_mul_right g0).mp lt
    have l3 : (m : Int) + 1 ≤ j := Rat.intCast_lt_intCast.mp lt2
    have := Rat.mul_le_mul_of_nonneg_right (int_le.mpr l3) (Rat.le_of_lt g0)
    rw [e2, hj]
    have c : (((m : Int) + 1 : Int) : Rat) = ((m + 1 : Nat) : Rat) := by rw [← Rat.intCast_natCast]; rfl
    rw [c] at this
    exact this
  have ee : Ext f (n + gapR f n) := by
    rw [e2]
    have := ext_mul (j := ((m + 1 : Nat) : Int)) hf ex.1 eh (by omega) (by omega)
    rw [Rat.intCast_natCast] at this
    exact this
  have bt := num_btw hf ht
  have nn : IsNum f (n + gapR f n) := by
    rcases ee with q | q | q
    · exact q
    · grind
    · have := top_pos hf
      grind
  obtain ⟨j, hj, ej⟩ := List.getElem_of_mem ((h.mem _).mpr nn)
  rcases Nat.lt_trichotomy j (i + 1) with q | q | q
  · exfalso
    rcases Nat.lt_trichotomy j i with z | z | z
    · have := so j i hj hi z
      grind
    · subst z; grind
    · omega
  · subst q; grind
  · have := so (i + 1) j hi1 hj q
    grind
/-- what lies between a number and the next one -/
theorem mid_gap {f : Fm} {n p : Rat} (hf : FmOk f) (h : IsNum f n) (n0 : 0 < n) (p0 : 0 < p) (p1 : p < 1) :
    (n + p * gapR f n).abs < topR f ∧ gapR f (n + p * gapR f n) = gapR f n ∧ dnR f (n + p * gapR f n) = n ∧ upR f (n + p * gapR f n) = n + gapR f n ∧ 0 < n + p * gapR f n := by
  have ⟨ex, eh⟩ := ex_of hf (num_lt hf h)
  have hb1 : 1 ≤ f.b := by have := hf.b0; omega
  have g0 := gap_pos hf n
  obtain ⟨m, m1, m2, e1, e2, e3⟩ := num_pos_is hf h n0
  have pg : 0 < p * gapR f n := Rat.mul_pos p0 g0
  have pg1 : p * gapR f n < gapR f n := by
    have := Rat.mul_pos (show 0 < 1 - p by grind) g0
    grind
  have an : n.abs = n := by rw [abs_is']; grind
  have ax : (n + p * gapR f n).abs = n + p * gapR f n := by rw [abs_is']; grind
  have tp := pw_mono hb1 (show f.k + exO f n ≤ f.k + f.hi by omega)
  have l1 : n + p * gapR f n < pw f.b (f.k + exO f n) := by grind
  have ie : IsEx f.b f.k f.lo (n + p * gapR f n) (exO f n) := by
    refine ⟨ex.1, by rw [ax]; exact l1, ?_⟩
    rcases ex.2.2 with q | q
    · exact .inl q
    · right
      rw [ax]
      rw [an] at q
      grind
  have eg : gapR f (n + p * gapR f n) = gapR f n := by
    have q := exO_eq hf ie
    show pw f.b (exO f (n + p * gapR f n)) = pw f.b (exO f n)
    rw [q]
  have gn : gapR f n ≠ 0 := by grind
  have dv : (n + p * gapR f n) / gapR f n = ((m : Int) : Rat) + p := by
    rw [Rat.intCast_natCast]
    have : n + p * gapR f n = ((m : Rat) + p) * gapR f n := by
      conv => lhs; lhs; rw [e1]
      grind
    rw [this]
    generalize gapR f n = g at gn
    generalize (m : Rat) + p = s
    clear this
    rw [Rat.div_def]
    grind
  have fl : (((m : Int) : Rat) + p).floor = (m : Int) := by
    refine Int.le_antisymm ?_ (Rat.le_floor_iff.mpr (by grind))
    have : (((m : Int) : Rat) + p).floor < (m : Int) + 1 := Rat.floor_lt_iff.mpr (by rw [cast_add1]; grind)
    omega
  have cl : (-(((m : Int) : Rat) + p)).floor = -((m : Int) + 1) := by
    refine Int.le_antisymm ?_ (Rat.le_floor_iff.mpr (by rw [Rat.intCast_neg, cast_add1]; grind))
    have : (-(((m : Int) : Rat) + p)).floor < -(m : Int) := Rat.floor_lt_iff.mpr (by rw [Rat.intCast_neg]; grind)
    omega
  refine ⟨?_, eg, ?_, ?_, by grind⟩
  · rw [ax]
    unfold topR
    grind
  · unfold dnR
    rw [eg, dv, fl, Rat.intCast_natCast]
    exact e1.symm
  · unfold upR
    rw [eg, dv, cl, Int.neg_neg, e2]
    congr 1
end Ra
end
section
set_option Elab.async false
set_option linter.all false
set_option maxRecDepth 100000
set_option maxHeartbeats 1000000
/-! how many numbers a format has -/
namespace Ra
open PySem PySem.Spec PyProof.Rows L2 Mi
def blkL (b : Nat) (e : Int) (a n : Nat) : List Rat := (List.range n).map fun i => ((a + i : Nat) : Rat) * pw b e
theorem blk_mem {b : Nat} {e : Int} {a n : Nat} {q : Rat} : q ∈ blkL b e a n ↔ ∃ m : Nat, a ≤ m ∧ m < a + n ∧ q = (m : Rat) * pw b e := by
  unfold blkL
  rw [List.mem_map]
  constructor
  · rintro ⟨i, hi, rfl⟩
    exact ⟨a + i, by omega, by have := List.mem_range.mp hi; omega, rfl⟩
  · rintro ⟨m, h1, h2, rfl⟩
    exact ⟨m - a, List.mem_range.mpr (by omega), by rw [show a + (m - a) = m by omega]⟩
theorem blk_so {b : Nat} (hb : 0 < b) {e : Int} {a n : Nat} : (blkL b e a n).Pairwise (· < ·) := by
  unfold blkL
  rw [List.pairwise_map]
  refine List.pairwise_lt_range.imp fun {i j} h => ?_
  exact (Rat.mul_lt_mul_right (pw_pos hb e)).mpr (Rat.natCast_lt_natCast.mpr (by omega))
def hiL (f : Fm) : List Rat := (List.range (f.hi - f.lo).toNat).flatMap fun d => blkL f.b (f.lo + 1 + (d : Nat)) (f.b ^ (f.k.toNat - 1)) (f.b ^ f.k.toNat - f.b ^ (f.k.toNat - 1))
def posL (f : Fm) : List Rat := blkL f.b f.lo 1 (f.b ^ f.k.toNat - 1) ++ hiL f
theorem pw_k1 {f : Fm} (hf : FmOk f) (E : Int) : pw f.b (f.k + (E - 1)) = ((f.b ^ (f.k.toNat - 1) : Nat) : Rat) * pw f.b E := by
  have hb : 0 < f.b := by have := hf.b0; omega
  rw [Rat.mul_comm, ← pw_add hb]
  congr 1
  have := hf.k0
  omega
theorem blk_btw {f : Fm} {e : Int} {q : Rat} (hf : FmOk f) (h : q ∈ blkL f.b e (f.b ^ (f.k.toNat - 1)) (f.b ^ f.k.toNat - f.b ^ (f.k.toNat - 1))) : pw f.b (f.k + (e - 1)) ≤ q ∧ q < pw f.b (f.k + e) := by
  have hb : 0 < f.b := by have := hf.b0; omega
  obtain ⟨m, h1, h2, rfl⟩ := blk_mem.mp h
  have p := pw_pos hb e
  rw [pw_k1 hf, pw_k hf]
  exact ⟨Rat.mul_le_mul_of_nonneg_right (nat_le.mpr h1) (Rat.le_of_lt p), (Rat.mul_lt_mul_right p).mpr (Rat.natCast_lt_natCast.mpr (by omega))⟩
theorem pos_so {f : Fm} (hf : FmOk f) : (posL f).Pairwise (· < ·) := by
  have hb : 0 < f.b := by have := hf.b0; omega
  unfold posL hiL
  rw [List.pairwise_append, List.pairwise_flatMap]
  refine ⟨blk_so hb, ⟨fun d _ => blk_so hb, List.pairwise_lt_range.imp fun {i j} h x hx y hy => ?_⟩, fun x hx y hy => ?_⟩
  · have a := (blk_btw hf hx).2
    have b := (blk_btw hf hy).1
    have c := pw_mono (b := f.b) hb (show f.k + (f.lo + 1 + (i : Nat)) ≤ f.k + (f.lo + 1 + (j : Nat) - 1) by omega)
    grind
  · obtain ⟨m, h1, h2, rfl⟩ := blk_mem.mp hx
    obtain ⟨d, _, hy⟩ := List.mem_flatMap.mp hy
    have b := (blk_btw hf hy).1
    have c := pw_mono (b := f.b) hb (show f.k + f.lo ≤ f.k + (f.lo + 1 + (d : Nat) - 1) by omega)
    have p := pw_pos hb f.lo
    rw [pw_k hf] at c
    have := (Rat.mul_lt_mul_right p).mpr (Rat.natCast_lt_natCast.mpr (show m < f.b ^ f.k.toNat by omega))
    grind
theorem pos_mem {f : Fm} (hf : FmOk f) (q : Rat) : q ∈ posL f ↔ IsNum f q ∧ 0 < q := by
  have hb : 0 < f.b := by have := hf.b0; omega
  have qp := Nat.pow_pos (n := f.k.toNat - 1) hb
  have mulp : ∀ (m : Nat) (e : Int), 1 ≤ m → 0 < (m : Rat) * pw f.b e := fun m e h => Rat.mul_pos (Rat.natCast_lt_natCast (a := 0) |>.mpr h) (pw_pos hb e)
  unfold posL hiL
  rw [List.mem_append, List.mem_flatMap]
  constructor
  · rintro (h | ⟨d, hd, h⟩)
    · obtain ⟨m, h1, h2, rfl⟩ := blk_mem.mp h
      exact ⟨laid_num hf (Int.le_refl _) hf.lh (by omega), mulp m _ h1⟩
    · obtain ⟨m, h1, h2, rfl⟩ := blk_mem.mp h
      have := List.mem_range.mp hd
      exact ⟨laid_num hf (by omega) (by omega) (by omega), mulp m _ (by omega)⟩
  · rintro ⟨h, q0⟩
    have ⟨ex, eh⟩ := ex_of hf (num_lt hf h)
    obtain ⟨m, m1, m2, e1, _, _⟩ := num_pos_is hf h q0
    rcases Int.lt_or_eq_of_le ex.1 with z | z
    · right
      have el : pw f.b (f.k + (exO f q - 1)) ≤ q.abs := by
        rcases ex.2.2 with w | w
        · omega
        · exact w
      have aq : q.abs = q := by rw [abs_is']; grind
      rw [aq, pw_k1 hf] at el
      have p := pw_pos hb (exO f q)
      have e1' : q = (m : Rat) * pw f.b (exO f q) := e1
      have lm : f.b ^ (f.k.toNat - 1) ≤ m := by
        by_cases w : f.b ^ (f.k.toNat - 1) ≤ m
        · exact w
        · exfalso
          have := (Rat.mul_lt_mul_right p).mpr (Rat.natCast_lt_natCast.mpr (show m < f.b ^ (f.k.toNat - 1) by omega))
          rw [← e1'] at this
          grind
      refine ⟨(exO f q - f.lo - 1).toNat, List.mem_range.mpr (by omega), blk_mem.mpr ⟨m, lm, by omega, ?_⟩⟩
      have : f.lo + 1 + ((exO f q - f.lo - 1).toNat : Int) = exO f q := by omega
      rw [this]
      exact e1
    · left
      refine blk_mem.mpr ⟨m, m1, by omega, ?_⟩
      rw [z]
      exact e1
theorem flat_len {α β : Type} (g : α → List β) (c : Nat) : ∀ l : List α, (∀ a ∈ l, (g a).length = c) → (l.flatMap g).length = l.length * c
  | [], _ => by simp
  | a :: l, h => by
    rw [List.flatMap_cons, List.length_append, flat_len g c l (fun b hb => h b (List.mem_cons_of_mem _ hb)), h a List.mem_cons_self, List.length_cons, Nat.succ_mul, Nat.add_comm]
theorem blk_len (b : Nat) (e : Int) (a n : Nat) : (blkL b e a n).length = n := by unfold blkL; simp
theorem pos_len (f : Fm) : (posL f).length = (f.b ^ f.k.toNat - 1) + (f.hi - f.lo).toNat * (f.b ^ f.k.toNat - f.b ^ (f.k.toNat - 1)) := by
  unfold posL hiL
  rw [List.length_append, blk_len, flat_len _ (f.b ^ f.k.toNat - f.b ^ (f.k.toNat - 1)) _ (fun a _ => blk_len _ _ _ _), List.length_range]
theorem lt_nd {L : List Rat} (h : L.Pairwise (· < ·)) : L.Nodup := h.imp fun {a b} q z => by rw [z] at q; grind
theorem Row.count {f : Fm} {xs : List Rat} (hf : FmOk f) (h : Row f xs) : xs.length = 1 + 2 * ((f.b ^ f.k.toNat - 1) + (f.hi - f.lo).toNat * (f.b ^ f.k.toNat - f.b ^ (f.k.toNat - 1))) := by
  have ps := lt_nd (pos_so hf)
  have pm := pos_mem hf
  have nd : (0 :: (posL f ++ (posL f).map fun q => -q)).Nodup := by
    rw [List.nodup_cons, List.nodup_append]
    refine ⟨fun z => ?_, ps, ?_, fun a ha b hb z => ?_⟩
    · rcases List.mem_append.mp z with w | w
      · have := ((pm 0).mp w).2
        grind
      · obtain ⟨q, hq, e⟩ := List.mem_map.mp w
        have := ((pm q).mp hq).2
        grind
    · unfold List.Nodup
      rw [List.pairwise_map]
      exact ps.imp fun {a b} n z => n (by grind)
    · obtain ⟨q, hq, e⟩ := List.mem_map.mp hb
      have := ((pm q).mp hq).2
      have := ((pm a).mp ha).2
      grind
  have pe : xs.Perm (0 :: (posL f ++ (posL f).map fun q => -q)) := by
    refine (List.perm_ext_iff_of_nodup (lt_nd h.so) nd).mpr fun q => ?_
    rw [h.mem, List.mem_cons, List.mem_append, List.mem_map, pm]
    constructor
    · intro hq
      by_cases z : q = 0
      · exact .inl z
      · by_cases w : 0 < q
        · exact .inr (.inl ⟨hq, w⟩)
        · exact .inr (.inr ⟨-q, (pm _).mpr ⟨hq.neg, by grind⟩, by grind⟩)
    · rintro (z | z | ⟨a, ha, e⟩)
      · rw [z]; exact zero_num hf
      · exact z.1
      · rw [← e]; exact ((pm a).mp ha).1.neg
  rw [pe.length_eq, List.length_cons, List.length_append, List.length_map, pos_len]
  omega
end Ra
end
section
set_option Elab.async false
set_option linter.all false
set_option maxRecDepth 100000
set_option maxHeartbeats 8000000
namespace G04
open PySem PySem.Spec PyProof.Rows L2 Mi
/-- what stands at the top, by its place -/
abbrev top (i : Nat) : Stmt := (PySem.Challenge.pw_roundwarrant_k04_whole_gaps_next_ones_an).main.body.getD i (.Pass ⟨0, 0, 0, 0⟩)
/-- turns enough for each while -/
abbrev fuel : Nat := 10000000000000000000000000000000000000000000000000000000000000000000000000000000000000000000000000000000000000000000000000000000000000000000000000000000000000000000000000000000000000000000000000000000000000000000000000000000000000000000000000000000000000000000000000000000000000000000000000000000000000000000000000000000000000000000000000000000000000000000000000000000000000000000000000000000000000000000000000000000000000000000000000000000000000000000000000000000000000000000000000000000000000000000000000000000000000000000000000000000000000000000000000000000000000000000000000000000000000000000000000000000000000000000000000000000000000000000000000000000000000000000000000000000000000000000000000000
abbrev c_FIFTY : Int := 100000000000000000000000000000000000000000000000000
abbrev c_MOST_TURNS : Int := 6
abbrev c_MOST_BASE : Int := 16
abbrev c_MOST_FIGURES : Int := 60
abbrev c_MOST_EXPONENT : Int := 400
abbrev c_MOST_DIGITS : Int := 200
abbrev c_MOST_LISTED : Int := 500
abbrev c_MOST_COUNTED : Int := 10000
abbrev c_NEAR : Str := "near"
abbrev c_DOWN : Str := "down"
abbrev c_UP : Str := "up"
abbrev c_TO_ZERO : Str := "zero"
abbrev c_WAYS : PV := .ct [.str "near", .str "down", .str "up", .str "zero"]
abbrev c_LONGEST : Int := 140
/-- which errors the law's clause takes -/
abbrev errN : List Str := ["RoundError", "NoFraction", "NoStretch", "NoFormat", "NoWay", "NoNumberOf", "TooMany"]
abbrev catT : Str → Option Bool := catN errN
/-- what isinstance tells of an error of the class c -/
abbrev isP : List (Str × Str × Bool) := ([("RoundError", "RoundError", true), ("RoundError", "NoFraction", false), ("RoundError", "NoStretch", false), ("RoundError", "NoFormat", false), ("RoundError", "NoWay", false), ("RoundError", "NoNumberOf", false), ("RoundError", "TooMany", false)] : List (Str × Str × Bool)) ++ ([("NoFraction", "RoundError", true), ("NoFraction", "NoFraction", true), ("NoFraction", "NoStretch", false), ("NoFraction", "NoFormat", false), ("NoFraction", "NoWay", false), ("NoFraction", "NoNumberOf", false), ("NoFraction", "TooMany", false)] : List (Str × Str × Bool)) ++ ([("NoStretch", "RoundError", true), ("NoStretch", "NoFraction", false), ("NoStretch", "NoStretch", true), ("NoStretch", "NoFormat", false), ("NoStretch", "NoWay", false), ("NoStretch", "NoNumberOf", false), ("NoStretch", "TooMany", false)] : List (Str × Str × Bool)) ++ ([("NoFormat", "RoundError", true), ("NoFormat", "NoFraction", false), ("NoFormat", "NoStretch", false), ("NoFormat", "NoFormat", true), ("NoFormat", "NoWay", false), ("NoFormat", "NoNumberOf", false), ("NoFormat", "TooMany", false)] : List (Str × Str × Bool)) ++ ([("NoWay", "RoundError", true), ("NoWay", "NoFraction", false), ("NoWay", "NoStretch", false), ("NoWay", "NoFormat", false), ("NoWay", "NoWay", true), ("NoWay", "NoNumberOf", false), ("NoWay", "TooMany", false)] : List (Str × Str × Bool)) ++ ([("NoNumberOf", "RoundError", true), ("NoNumberOf", "NoFraction", false), ("NoNumberOf", "NoStretch", false), ("NoNumberOf", "NoFormat", false), ("NoNumberOf", "NoWay", false), ("NoNumberOf", "NoNumberOf", true), ("NoNumberOf", "TooMany", false)] : List (Str × Str × Bool)) ++ ([("TooMany", "RoundError", true), ("TooMany", "NoFraction", false), ("TooMany", "NoStretch", false), ("TooMany", "NoFormat", false), ("TooMany", "NoWay", false), ("TooMany", "NoNumberOf", false), ("TooMany", "TooMany", true)] : List (Str × Str × Bool))
abbrev isT : Str → PV → Option Bool := isTab isP errN
/-! is_integer -/
abbrev s_is_integer : Stmt := top 11
def d_is_integer : EnP → Sto → SR := dRet (dAnd (dCB fIsi (dCons (dV 0) (dCons (dC (.ty "int")) (dNil)))) (dNot (dCB fIsi (dCons (dV 0) (dCons (dC (.ty "bool")) (dNil))))))
def F_is_integer : List PV → Sto → Res PV := runF 1 1 d_is_integer
theorem sc_is_integer : FnScope (["thing"] : List Str) (["thing"] : List Str) (defScope s_is_integer) := ⟨rfl, rfl, rfl, by decide +kernel, rfl, by decide +kernel, by decide +kernel⟩
theorem fc_is_integer {Z : Wd} (B : Bi Z.mg) (hT : Z.T.lm = none) (D : DefOk Z "is_integer" s_is_integer) : FC Z 1 "is_integer" F_is_integer := by
  have Sc := sc_is_integer
  exact D.fc Sc (fun _ _ _ _ _ _ us hl => match us, hl with | [_], _ => rfl) fun f cdv A outer s H E C => by exact (css_one (cs_ret (ce_and (ce_callB (x := ("isinstance" : Str)) call_isi sl_isi rfl B.b_isinstance PyProof.Rows.boot_isinstance (ca_cons (ce_v 0) (ca_cons (ce_bty rfl B.b_int PyProof.Rows.boot_int) ca_nil))) (ce_one (ce_not (ce_callB (x := ("isinstance" : Str)) call_isi sl_isi rfl B.b_isinstance PyProof.Rows.boot_isinstance (ca_cons (ce_v 0) (ca_cons (ce_bty rfl B.b_bool PyProof.Rows.boot_bool) ca_nil))))))))
/-! is_within -/
abbrev s_is_within : Stmt := top 12
def d_is_within : EnP → Sto → SR := dRet (dAnd (dCB F_is_integer (dCons (dV 0) (dNil))) (dChain (fCmpI iLe) (fCmpI iLe) (dV 1) (dV 0) (dV 2)))
def F_is_within : List PV → Sto → Res PV := runF 3 3 d_is_within
theorem sc_is_within : FnScope (["thing", "low", "high"] : List Str) (["thing", "low", "high"] : List Str) (defScope s_is_within) := ⟨rfl, rfl, rfl, by decide +kernel, rfl, by decide +kernel, by decide +kernel⟩
theorem fc_is_within {Z : Wd} (B : Bi Z.mg) (hT : Z.T.lm = none) (h_is_integer : FC Z 1 "is_integer" F_is_integer) (D : DefOk Z "is_within" s_is_within) : FC Z 2 "is_within" F_is_within := by
  have Sc := sc_is_within
  exact D.fc Sc (fun _ _ _ _ _ _ us hl => match us, hl with | [_, _, _], _ => rfl) fun f cdv A outer s H E C => by exact (css_one (cs_ret (ce_and (ce_call h_is_integer C (by decide) rfl (ca_cons (ce_v 0) ca_nil)) (ce_one (ce_chain op_le (sn_cmpI iLe) op_le (sn_cmpI iLe) (ce_v 1) (ce_v 0) (ce_v 2))))))
/-! too_great -/
abbrev s_too_great : Stmt := top 13
def d_too_great : EnP → Sto → SR := dSeq (dSet 0 (dC (.int 1))) (dSeq (dFor (iRange (dCons (dC (.int c_MOST_TURNS)) (dNil))) (gNm 1) (dSet 0 (dBin (fMul false) (dV 0) (dC (.int c_FIFTY))))) (dRet (dV 0)))
def F_too_great : List PV → Sto → Res PV := runF 0 2 d_too_great
theorem sc_too_great : FnScope (["found", "turn"] : List Str) ([] : List Str) (defScope s_too_great) := ⟨rfl, rfl, rfl, by decide +kernel, rfl, by decide +kernel, by decide +kernel⟩
theorem fc_too_great {Z : Wd} (B : Bi Z.mg) (hT : Z.T.lm = none) (h_MOST_TURNS : ∃ t, Z.mg "MOST_TURNS" = some (.int c_MOST_TURNS t)) (h_FIFTY : ∃ t, Z.mg "FIFTY" = some (.int c_FIFTY t)) (D : DefOk Z "too_great" s_too_great) : FC Z 1 "too_great" F_too_great := by
  have Sc := sc_too_great
  exact D.fc Sc (fun _ _ _ _ _ _ us hl => match us, hl with | [], _ => rfl) fun f cdv A outer s H E C => by exact (css_cons (cs_set (i := 0) Sc.nd rfl (Or.inl rfl) ce_int) (css_cons (cs_for C.po C.calm (ci_range1 rfl B.b_range (ca_cons (ce_gi h_MOST_TURNS rfl) ca_nil) rfl len1) (cg_name (i := 1) Sc.nd rfl (Or.inl rfl)) (css_one (cs_set (i := 0) Sc.nd rfl (Or.inl rfl) (ce_bin op_mulM (sn_mul false (fun h => nomatch h)) (ce_v 0) (ce_gi h_FIFTY rfl))))) (css_one (cs_ret (ce_v 0)))))
/-! common_divisor -/
abbrev s_common_divisor : Stmt := top 14
def d_common_divisor : EnP → Sto → SR := dSeq (dPar 0 1 (dCons (dCB fAbs (dCons (dV 0) (dNil))) (dCons (dCB fAbs (dCons (dV 1) (dNil))) (dNil)))) (dSeq (whileP (dB (dBin (fCmpI iGt) (dV 1) (dC (.int 0)))) (dPar 0 1 (dCons (dV 1) (dCons (dBin fMod (dV 0) (dV 1)) (dNil)))) fuel) (dRet (dV 0)))
def F_common_divisor : List PV → Sto → Res PV := runF 2 2 d_common_divisor
theorem sc_common_divisor : FnScope (["one", "other"] : List Str) (["one", "other"] : List Str) (defScope s_common_divisor) := ⟨rfl, rfl, rfl, by decide +kernel, rfl, by decide +kernel, by decide +kernel⟩
theorem fc_common_divisor {Z : Wd} (B : Bi Z.mg) (hT : Z.T.lm = none) (D : DefOk Z "common_divisor" s_common_divisor) : FC Z 1 "common_divisor" F_common_divisor := by
  have Sc := sc_common_divisor
  exact D.fc Sc (fun _ _ _ _ _ _ us hl => match us, hl with | [_, _], _ => rfl) fun f cdv A outer s H E C => by exact (css_cons (cs_par (i := 0) (j := 1) C.calm Sc.nd rfl rfl (by decide) rfl rfl (ca_cons (ce_callB (x := ("abs" : Str)) call_abs sl_abs rfl B.b_abs PyProof.Rows.boot_abs (ca_cons (ce_v 0) ca_nil)) (ca_cons (ce_callB (x := ("abs" : Str)) call_abs sl_abs rfl B.b_abs PyProof.Rows.boot_abs (ca_cons (ce_v 1) ca_nil)) ca_nil)) rfl) (css_cons (cs_while fuel C.po (ct_cmp op_gt (sn_cmpI iGt) (ce_v 1) ce_int rfl) (css_one (cs_par (i := 0) (j := 1) C.calm Sc.nd rfl rfl (by decide) rfl rfl (ca_cons (ce_v 1) (ca_cons (ce_bin op_modN sn_mod (ce_v 0) (ce_v 1)) ca_nil)) rfl))) (css_one (cs_ret (ce_v 0)))))
/-! is_fraction -/
abbrev s_is_fraction : Stmt := top 15
def d_is_fraction : EnP → Sto → SR := dSeq (dIfS (bOr (bNot (dTru (dCB fIsi (dCons (dV 0) (dCons (dC (.ty "tuple")) (dNil)))))) (bOr (dB (dBin (fEq true) (dCB fLen (dCons (dV 0) (dNil))) (dC (.int 2)))) (bNot (dTru (dCB fAll (dCons (dLc false (iSeq (dV 0)) (cNm 1) (dYes) (dCB F_is_integer (dCons (dV 1) (dNil))) [1]) (dNil))))))) (dRet (dC (.bl false))) (dPass)) (dSeq (dSet 2 (dCB F_too_great dNil)) (dSeq (dIfS (bOr (bNot (dB (dChain (fCmpI iLt) (fCmpI iLt) (dC (.int 0)) (dBin fIx (dV 0) (dC (.int 1))) (dV 2)))) (dB (dBin (fCmpI iGe) (dCB fAbs (dCons (dBin fIx (dV 0) (dC (.int 0))) (dNil))) (dV 2)))) (dRet (dC (.bl false))) (dPass)) (dRet (dBin (fEq false) (dCB F_common_divisor (dCons (dBin fIx (dV 0) (dC (.int 0))) (dCons (dBin fIx (dV 0) (dC (.int 1))) (dNil)))) (dC (.int 1))))))
def F_is_fraction : List PV → Sto → Res PV := runF 1 3 d_is_fraction
theorem sc_is_fraction : FnScope (["thing", "one", "most"] : List Str) (["thing"] : List Str) (defScope s_is_fraction) := ⟨rfl, rfl, rfl, by decide +kernel, rfl, by decide +kernel, by decide +kernel⟩
theorem fc_is_fraction {Z : Wd} (B : Bi Z.mg) (hT : Z.T.lm = none) (h_is_integer : FC Z 1 "is_integer" F_is_integer) (h_too_great : FC Z 1 "too_great" F_too_great) (h_common_divisor : FC Z 1 "common_divisor" F_common_divisor) (D : DefOk Z "is_fraction" s_is_fraction) : FC Z 2 "is_fraction" F_is_fraction := by
  have Sc := sc_is_fraction
  exact D.fc Sc (fun _ _ _ _ _ _ us hl => match us, hl with | [_], _ => rfl) fun f cdv A outer s H E C => by exact (css_cons (cs_if (ct_w (cw_or (ct_not (ct_tru (ce_callB (x := ("isinstance" : Str)) call_isi sl_isi rfl B.b_isinstance PyProof.Rows.boot_isinstance (ca_cons (ce_v 0) (ca_cons (ce_bty rfl B.b_tuple PyProof.Rows.boot_tuple) ca_nil))))) (cw_or (ct_cmp (op_neD (u64 C.u)) sn_ne (ce_callB (x := ("len" : Str)) call_len sl_len rfl B.b_len (by decide +kernel) (ca_cons (ce_v 0) ca_nil)) ce_int rfl) (cw_or1 (ct_not (ct_tru (ce_callB (x := ("all" : Str)) (cr_all C.calm) sl_all rfl B.b_all (by decide +kernel) (ca_cons (ce_lcC false (fun h => nomatch h) C Sc.nd (ci_seq (ce_v 0)) (show BlkOk (["thing", "one", "most"] : List Str) (defScope s_is_fraction) _ [(("one" : Str), 1)] from blkOk_by (by decide +kernel)) (fun _ _ _ _ _ C => (pg_name (i := 1) Sc.nd rfl (Or.inl rfl) (Or.inr rfl))) (tgc_name (by decide)) (fun _ _ _ _ _ _ => pts_yes) (fun _ _ _ _ _ C => (ce_call h_is_integer C (by decide) rfl (ca_cons (ce_v 1) ca_nil)))) ca_nil)))))))) (css_one (cs_ret ce_bl)) css_nil) (css_cons (cs_set (i := 2) Sc.nd rfl (Or.inl rfl) (ce_call0 h_too_great C (by decide) rfl)) (css_cons (cs_if (ct_w (cw_or (ct_not (ct_chain op_lt (sn_cmpI iLt) op_lt (sn_cmpI iLt) ce_int (ce_ix (ce_v 0) ce_int (fun _ _ => rfl)) (ce_v 2))) (cw_or1 (ct_cmp op_ge (sn_cmpI iGe) (ce_callB (x := ("abs" : Str)) call_abs sl_abs rfl B.b_abs PyProof.Rows.boot_abs (ca_cons (ce_ix (ce_v 0) ce_int (fun _ _ => rfl)) ca_nil)) (ce_v 2) rfl)))) (css_one (cs_ret ce_bl)) css_nil) (css_one (cs_ret (ce_cmp (op_eqD (u64 C.u)) sn_eq (ce_call h_common_divisor C (by decide) rfl (ca_cons (ce_ix (ce_v 0) ce_int (fun _ _ => rfl)) (ca_cons (ce_ix (ce_v 0) ce_int (fun _ _ => rfl)) ca_nil))) ce_int rfl))))))
/-! check_fraction -/
abbrev s_check_fraction : Stmt := top 16
def d_check_fraction : EnP → Sto → SR := dIfS (bNot (dTru (dCB F_is_fraction (dCons (dV 0) (dNil))))) (dRaise ("NoFraction" : Str)) (dPass)
def F_check_fraction : List PV → Sto → Res PV := runF 1 1 d_check_fraction
theorem sc_check_fraction : FnScope (["thing"] : List Str) (["thing"] : List Str) (defScope s_check_fraction) := ⟨rfl, rfl, rfl, by decide +kernel, rfl, by decide +kernel, by decide +kernel⟩
theorem fc_check_fraction {Z : Wd} (B : Bi Z.mg) (hT : Z.T.lm = none) (e_NoFraction : EC Z.K Z.mg "NoFraction") (h_is_fraction : FC Z 2 "is_fraction" F_is_fraction) (D : DefOk Z "check_fraction" s_check_fraction) : FC Z 3 "check_fraction" F_check_fraction := by
  have Sc := sc_check_fraction
  exact D.fc Sc (fun _ _ _ _ _ _ us hl => match us, hl with | [_], _ => rfl) fun f cdv A outer s H E C => by exact (css_one (cs_if (ct_not (ct_tru (ce_call h_is_fraction C (by decide) rfl (ca_cons (ce_v 0) ca_nil)))) (css_one (cs_raise0 e_NoFraction C.calm C.tk rfl)) css_nil))
/-! check_two -/
abbrev s_check_two : Stmt := top 17
def d_check_two : EnP → Sto → SR := dSeq (dExpr (dCB F_check_fraction (dCons (dV 0) (dNil)))) (dExpr (dCB F_check_fraction (dCons (dV 1) (dNil))))
def F_check_two : List PV → Sto → Res PV := runF 2 2 d_check_two
theorem sc_check_two : FnScope (["x", "y"] : List Str) (["x", "y"] : List Str) (defScope s_check_two) := ⟨rfl, rfl, rfl, by decide +kernel, rfl, by decide +kernel, by decide +kernel⟩
theorem fc_check_two {Z : Wd} (B : Bi Z.mg) (hT : Z.T.lm = none) (h_check_fraction : FC Z 3 "check_fraction" F_check_fraction) (D : DefOk Z "check_two" s_check_two) : FC Z 4 "check_two" F_check_two := by
  have Sc := sc_check_two
  exact D.fc Sc (fun _ _ _ _ _ _ us hl => match us, hl with | [_, _], _ => rfl) fun f cdv A outer s H E C => by exact (css_cons (cs_expr (ce_call h_check_fraction C (by decide) rfl (ca_cons (ce_v 0) ca_nil))) (css_one (cs_expr (ce_call h_check_fraction C (by decide) rfl (ca_cons (ce_v 1) ca_nil)))))
/-! made -/
abbrev s_made : Stmt := top 18
def d_made : EnP → Sto → SR := dSeq (dSet 2 (dCB F_common_divisor (dCons (dV 0) (dCons (dV 1) (dNil))))) (dSeq (dSet 3 (dIf (dB (dBin (fCmpI iGt) (dV 1) (dC (.int 0)))) (dTup (dCons (dBin fDiv (dV 0) (dV 2)) (dCons (dBin fDiv (dV 1) (dV 2)) (dNil)))) (dTup (dCons (dBin fDiv (dUn fNeg (dV 0)) (dV 2)) (dCons (dBin fDiv (dUn fNeg (dV 1)) (dV 2)) (dNil)))))) (dSeq (dSet 4 (dCB F_too_great dNil)) (dSeq (dIfS (bOr (dB (dBin (fCmpI iGe) (dCB fAbs (dCons (dBin fIx (dV 3) (dC (.int 0))) (dNil))) (dV 4))) (dB (dBin (fCmpI iGe) (dBin fIx (dV 3) (dC (.int 1))) (dV 4)))) (dRaise ("NoFraction" : Str)) (dPass)) (dRet (dV 3)))))
def F_made : List PV → Sto → Res PV := runF 2 5 d_made
theorem sc_made : FnScope (["top", "bottom", "by", "found", "most"] : List Str) (["top", "bottom"] : List Str) (defScope s_made) := ⟨rfl, rfl, rfl, by decide +kernel, rfl, by decide +kernel, by decide +kernel⟩
theorem fc_made {Z : Wd} (B : Bi Z.mg) (hT : Z.T.lm = none) (e_NoFraction : EC Z.K Z.mg "NoFraction") (h_common_divisor : FC Z 1 "common_divisor" F_common_divisor) (h_too_great : FC Z 1 "too_great" F_too_great) (D : DefOk Z "made" s_made) : FC Z 2 "made" F_made := by
  have Sc := sc_made
  exact D.fc Sc (fun _ _ _ _ _ _ us hl => match us, hl with | [_, _], _ => rfl) fun f cdv A outer s H E C => by exact (css_cons (cs_set (i := 2) Sc.nd rfl (Or.inl rfl) (ce_call h_common_divisor C (by decide) rfl (ca_cons (ce_v 0) (ca_cons (ce_v 1) ca_nil)))) (css_cons (cs_set (i := 3) Sc.nd rfl (Or.inl rfl) (ce_if (ct_cmp op_gt (sn_cmpI iGt) (ce_v 1) ce_int rfl) (ce_tup (ca_cons (ce_bin op_fdivA sn_div (ce_v 0) (ce_v 2)) (ca_cons (ce_bin op_fdivA sn_div (ce_v 1) (ce_v 2)) ca_nil))) (ce_tup (ca_cons (ce_bin op_fdivA sn_div (ce_un un_neg sn_neg (ce_v 0)) (ce_v 2)) (ca_cons (ce_bin op_fdivA sn_div (ce_un un_neg sn_neg (ce_v 1)) (ce_v 2)) ca_nil))))) (css_cons (cs_set (i := 4) Sc.nd rfl (Or.inl rfl) (ce_call0 h_too_great C (by decide) rfl)) (css_cons (cs_if (ct_w (cw_or (ct_cmp op_ge (sn_cmpI iGe) (ce_callB (x := ("abs" : Str)) call_abs sl_abs rfl B.b_abs PyProof.Rows.boot_abs (ca_cons (ce_ix (ce_v 3) ce_int (fun _ _ => rfl)) ca_nil)) (ce_v 4) rfl) (cw_or1 (ct_cmp op_ge (sn_cmpI iGe) (ce_ix (ce_v 3) ce_int (fun _ _ => rfl)) (ce_v 4) rfl)))) (css_one (cs_raise0 e_NoFraction C.calm C.tk rfl)) css_nil) (css_one (cs_ret (ce_v 3)))))))
/-! fraction -/
abbrev s_fraction : Stmt := top 19
def d_fraction : EnP → Sto → SR := dSeq (dIfS (bOr (bNot (dTru (dCB F_is_integer (dCons (dV 0) (dNil))))) (bOr (bNot (dTru (dCB F_is_integer (dCons (dV 1) (dNil))))) (dB (dBin (fEq false) (dV 1) (dC (.int 0)))))) (dRaise ("NoFraction" : Str)) (dPass)) (dRet (dCB F_made (dCons (dV 0) (dCons (dV 1) (dNil)))))
def F_fraction : List PV → Sto → Res PV := runF 2 2 d_fraction
theorem sc_fraction : FnScope (["top", "bottom"] : List Str) (["top", "bottom"] : List Str) (defScope s_fraction) := ⟨rfl, rfl, rfl, by decide +kernel, rfl, by decide +kernel, by decide +kernel⟩
theorem fc_fraction {Z : Wd} (B : Bi Z.mg) (hT : Z.T.lm = none) (e_NoFraction : EC Z.K Z.mg "NoFraction") (h_is_integer : FC Z 1 "is_integer" F_is_integer) (h_made : FC Z 2 "made" F_made) (D : DefOk Z "fraction" s_fraction) : FC Z 3 "fraction" F_fraction := by
  have Sc := sc_fraction
  exact D.fc Sc (fun _ _ _ _ _ _ us hl => match us, hl with | [_, _], _ => rfl) fun f cdv A outer s H E C => by exact (css_cons (cs_if (ct_w (cw_or (ct_not (ct_tru (ce_call h_is_integer C (by decide) rfl (ca_cons (ce_v 0) ca_nil)))) (cw_or (ct_not (ct_tru (ce_call h_is_integer C (by decide) rfl (ca_cons (ce_v 1) ca_nil)))) (cw_or1 (ct_cmp (op_eqD (u64 C.u)) sn_eq (ce_v 1) ce_int rfl))))) (css_one (cs_raise0 e_NoFraction C.calm C.tk rfl)) css_nil) (css_one (cs_ret (ce_call h_made C (by decide) rfl (ca_cons (ce_v 0) (ca_cons (ce_v 1) ca_nil))))))
/-! raw_less -/
abbrev s_raw_less : Stmt := top 20
def d_raw_less : EnP → Sto → SR := dRet (dCB F_made (dCons (dBin fSub (dBin (fMul false) (dBin fIx (dV 0) (dC (.int 0))) (dBin fIx (dV 1) (dC (.int 1)))) (dBin (fMul false) (dBin fIx (dV 1) (dC (.int 0))) (dBin fIx (dV 0) (dC (.int 1))))) (dCons (dBin (fMul false) (dBin fIx (dV 0) (dC (.int 1))) (dBin fIx (dV 1) (dC (.int 1)))) (dNil))))
def F_raw_less : List PV → Sto → Res PV := runF 2 2 d_raw_less
theorem sc_raw_less : FnScope (["x", "y"] : List Str) (["x", "y"] : List Str) (defScope s_raw_less) := ⟨rfl, rfl, rfl, by decide +kernel, rfl, by decide +kernel, by decide +kernel⟩
theorem fc_raw_less {Z : Wd} (B : Bi Z.mg) (hT : Z.T.lm = none) (h_made : FC Z 2 "made" F_made) (D : DefOk Z "raw_less" s_raw_less) : FC Z 3 "raw_less" F_raw_less := by
  have Sc := sc_raw_less
  exact D.fc Sc (fun _ _ _ _ _ _ us hl => match us, hl with | [_, _], _ => rfl) fun f cdv A outer s H E C => by exact (css_one (cs_ret (ce_call h_made C (by decide) rfl (ca_cons (ce_bin op_sub sn_sub (ce_bin op_mulM (sn_mul false (fun h => nomatch h)) (ce_ix (ce_v 0) ce_int (fun _ _ => rfl)) (ce_ix (ce_v 1) ce_int (fun _ _ => rfl))) (ce_bin op_mulM (sn_mul false (fun h => nomatch h)) (ce_ix (ce_v 1) ce_int (fun _ _ => rfl)) (ce_ix (ce_v 0) ce_int (fun _ _ => rfl)))) (ca_cons (ce_bin op_mulM (sn_mul false (fun h => nomatch h)) (ce_ix (ce_v 0) ce_int (fun _ _ => rfl)) (ce_ix (ce_v 1) ce_int (fun _ _ => rfl))) ca_nil)))))
/-! raw_times -/
abbrev s_raw_times : Stmt := top 21
def d_raw_times : EnP → Sto → SR := dRet (dCB F_made (dCons (dBin (fMul false) (dBin fIx (dV 0) (dC (.int 0))) (dBin fIx (dV 1) (dC (.int 0)))) (dCons (dBin (fMul false) (dBin fIx (dV 0) (dC (.int 1))) (dBin fIx (dV 1) (dC (.int 1)))) (dNil))))
def F_raw_times : List PV → Sto → Res PV := runF 2 2 d_raw_times
theorem sc_raw_times : FnScope (["x", "y"] : List Str) (["x", "y"] : List Str) (defScope s_raw_times) := ⟨rfl, rfl, rfl, by decide +kernel, rfl, by decide +kernel, by decide +kernel⟩
theorem fc_raw_times {Z : Wd} (B : Bi Z.mg) (hT : Z.T.lm = none) (h_made : FC Z 2 "made" F_made) (D : DefOk Z "raw_times" s_raw_times) : FC Z 3 "raw_times" F_raw_times := by
  have Sc := sc_raw_times
  exact D.fc Sc (fun _ _ _ _ _ _ us hl => match us, hl with | [_, _], _ => rfl) fun f cdv A outer s H E C => by exact (css_one (cs_ret (ce_call h_made C (by decide) rfl (ca_cons (ce_bin op_mulM (sn_mul false (fun h => nomatch h)) (ce_ix (ce_v 0) ce_int (fun _ _ => rfl)) (ce_ix (ce_v 1) ce_int (fun _ _ => rfl))) (ca_cons (ce_bin op_mulM (sn_mul false (fun h => nomatch h)) (ce_ix (ce_v 0) ce_int (fun _ _ => rfl)) (ce_ix (ce_v 1) ce_int (fun _ _ => rfl))) ca_nil)))))
/-! raw_at_most -/
abbrev s_raw_at_most : Stmt := top 22
def d_raw_at_most : EnP → Sto → SR := dRet (dBin (fCmpI iLe) (dBin (fMul false) (dBin fIx (dV 0) (dC (.int 0))) (dBin fIx (dV 1) (dC (.int 1)))) (dBin (fMul false) (dBin fIx (dV 1) (dC (.int 0))) (dBin fIx (dV 0) (dC (.int 1)))))
def F_raw_at_most : List PV → Sto → Res PV := runF 2 2 d_raw_at_most
theorem sc_raw_at_most : FnScope (["x", "y"] : List Str) (["x", "y"] : List Str) (defScope s_raw_at_most) := ⟨rfl, rfl, rfl, by decide +kernel, rfl, by decide +kernel, by decide +kernel⟩
theorem fc_raw_at_most {Z : Wd} (B : Bi Z.mg) (hT : Z.T.lm = none) (D : DefOk Z "raw_at_most" s_raw_at_most) : FC Z 1 "raw_at_most" F_raw_at_most := by
  have Sc := sc_raw_at_most
  exact D.fc Sc (fun _ _ _ _ _ _ us hl => match us, hl with | [_, _], _ => rfl) fun f cdv A outer s H E C => by exact (css_one (cs_ret (ce_cmp op_le (sn_cmpI iLe) (ce_bin op_mulM (sn_mul false (fun h => nomatch h)) (ce_ix (ce_v 0) ce_int (fun _ _ => rfl)) (ce_ix (ce_v 1) ce_int (fun _ _ => rfl))) (ce_bin op_mulM (sn_mul false (fun h => nomatch h)) (ce_ix (ce_v 1) ce_int (fun _ _ => rfl)) (ce_ix (ce_v 0) ce_int (fun _ _ => rfl))) rfl)))
/-! at_most -/
abbrev s_at_most : Stmt := top 23
def d_at_most : EnP → Sto → SR := dSeq (dExpr (dCB F_check_two (dCons (dV 0) (dCons (dV 1) (dNil))))) (dRet (dCB F_raw_at_most (dCons (dV 0) (dCons (dV 1) (dNil)))))
def F_at_most : List PV → Sto → Res PV := runF 2 2 d_at_most
theorem sc_at_most : FnScope (["x", "y"] : List Str) (["x", "y"] : List Str) (defScope s_at_most) := ⟨rfl, rfl, rfl, by decide +kernel, rfl, by decide +kernel, by decide +kernel⟩
theorem fc_at_most {Z : Wd} (B : Bi Z.mg) (hT : Z.T.lm = none) (h_check_two : FC Z 4 "check_two" F_check_two) (h_raw_at_most : FC Z 1 "raw_at_most" F_raw_at_most) (D : DefOk Z "at_most" s_at_most) : FC Z 5 "at_most" F_at_most := by
  have Sc := sc_at_most
  exact D.fc Sc (fun _ _ _ _ _ _ us hl => match us, hl with | [_, _], _ => rfl) fun f cdv A outer s H E C => by exact (css_cons (cs_expr (ce_call h_check_two C (by decide) rfl (ca_cons (ce_v 0) (ca_cons (ce_v 1) ca_nil)))) (css_one (cs_ret (ce_call h_raw_at_most C (by decide) rfl (ca_cons (ce_v 0) (ca_cons (ce_v 1) ca_nil))))))
/-! raw_size -/
abbrev s_raw_size : Stmt := top 24
def d_raw_size : EnP → Sto → SR := dRet (dTup (dCons (dCB fAbs (dCons (dBin fIx (dV 0) (dC (.int 0))) (dNil))) (dCons (dBin fIx (dV 0) (dC (.int 1))) (dNil))))
def F_raw_size : List PV → Sto → Res PV := runF 1 1 d_raw_size
theorem sc_raw_size : FnScope (["x"] : List Str) (["x"] : List Str) (defScope s_raw_size) := ⟨rfl, rfl, rfl, by decide +kernel, rfl, by decide +kernel, by decide +kernel⟩
theorem fc_raw_size {Z : Wd} (B : Bi Z.mg) (hT : Z.T.lm = none) (D : DefOk Z "raw_size" s_raw_size) : FC Z 1 "raw_size" F_raw_size := by
  have Sc := sc_raw_size
  exact D.fc Sc (fun _ _ _ _ _ _ us hl => match us, hl with | [_], _ => rfl) fun f cdv A outer s H E C => by exact (css_one (cs_ret (ce_tup (ca_cons (ce_callB (x := ("abs" : Str)) call_abs sl_abs rfl B.b_abs PyProof.Rows.boot_abs (ca_cons (ce_ix (ce_v 0) ce_int (fun _ _ => rfl)) ca_nil)) (ca_cons (ce_ix (ce_v 0) ce_int (fun _ _ => rfl)) ca_nil)))))
/-! digits_of -/
abbrev s_digits_of : Stmt := top 40
def d_digits_of : EnP → Sto → SR := dRet (dIf (dB (dBin (fCmpI iLt) (dV 0) (dC (.int 3)))) (dC (.int 4)) (dIf (dB (dBin (fCmpI iLt) (dV 0) (dC (.int 5)))) (dC (.int 7)) (dIf (dB (dBin (fCmpI iLt) (dV 0) (dC (.int 11)))) (dC (.int 10)) (dC (.int 13)))))
def F_digits_of : List PV → Sto → Res PV := runF 1 1 d_digits_of
theorem sc_digits_of : FnScope (["base"] : List Str) (["base"] : List Str) (defScope s_digits_of) := ⟨rfl, rfl, rfl, by decide +kernel, rfl, by decide +kernel, by decide +kernel⟩
theorem fc_digits_of {Z : Wd} (B : Bi Z.mg) (hT : Z.T.lm = none) (D : DefOk Z "digits_of" s_digits_of) : FC Z 1 "digits_of" F_digits_of := by
  have Sc := sc_digits_of
  exact D.fc Sc (fun _ _ _ _ _ _ us hl => match us, hl with | [_], _ => rfl) fun f cdv A outer s H E C => by exact (css_one (cs_ret (ce_if (ct_cmp op_lt (sn_cmpI iLt) (ce_v 0) ce_int rfl) ce_int (ce_if (ct_cmp op_lt (sn_cmpI iLt) (ce_v 0) ce_int rfl) ce_int (ce_if (ct_cmp op_lt (sn_cmpI iLt) (ce_v 0) ce_int rfl) ce_int ce_int)))))
/-! is_short -/
abbrev s_is_short : Stmt := top 39
def d_is_short : EnP → Sto → SR := dSeq (dSet 1 (dBin (fAdd false) (dBin fIx (dV 0) (dC (.int 1))) (dCB fMax (dCons (dCB fAbs (dCons (dBin fIx (dV 0) (dC (.int 2))) (dNil))) (dCons (dCB fAbs (dCons (dBin fIx (dV 0) (dC (.int 3))) (dNil))) (dNil)))))) (dRet (dBin (fCmpI iLe) (dBin (fMul false) (dV 1) (dCB F_digits_of (dCons (dBin fIx (dV 0) (dC (.int 0))) (dNil)))) (dBin (fMul false) (dC (.int c_LONGEST)) (dC (.int 10)))))
def F_is_short : List PV → Sto → Res PV := runF 1 2 d_is_short
theorem sc_is_short : FnScope (["thing", "most"] : List Str) (["thing"] : List Str) (defScope s_is_short) := ⟨rfl, rfl, rfl, by decide +kernel, rfl, by decide +kernel, by decide +kernel⟩
theorem fc_is_short {Z : Wd} (B : Bi Z.mg) (hT : Z.T.lm = none) (h_LONGEST : ∃ t, Z.mg "LONGEST" = some (.int c_LONGEST t)) (h_digits_of : FC Z 1 "digits_of" F_digits_of) (D : DefOk Z "is_short" s_is_short) : FC Z 2 "is_short" F_is_short := by
  have Sc := sc_is_short
  exact D.fc Sc (fun _ _ _ _ _ _ us hl => match us, hl with | [_], _ => rfl) fun f cdv A outer s H E C => by exact (css_cons (cs_set (i := 1) Sc.nd rfl (Or.inl rfl) (ce_bin op_addM (sn_add false (fun h => nomatch h)) (ce_ix (ce_v 0) ce_int (fun _ _ => rfl)) (ce_callB (x := ("max" : Str)) (call_max2 C.calm) sl_max rfl B.b_max (by decide +kernel) (ca_cons (ce_callB (x := ("abs" : Str)) call_abs sl_abs rfl B.b_abs PyProof.Rows.boot_abs (ca_cons (ce_ix (ce_v 0) ce_int (fun _ _ => rfl)) ca_nil)) (ca_cons (ce_callB (x := ("abs" : Str)) call_abs sl_abs rfl B.b_abs PyProof.Rows.boot_abs (ca_cons (ce_ix (ce_v 0) ce_int (fun _ _ => rfl)) ca_nil)) ca_nil))))) (css_one (cs_ret (ce_cmp op_le (sn_cmpI iLe) (ce_bin op_mulM (sn_mul false (fun h => nomatch h)) (ce_v 1) (ce_call h_digits_of C (by decide) rfl (ca_cons (ce_ix (ce_v 0) ce_int (fun _ _ => rfl)) ca_nil))) (ce_bin op_mulM (sn_mul false (fun h => nomatch h)) (ce_gi h_LONGEST rfl) ce_int) rfl))))
/-! is_format -/
abbrev s_is_format : Stmt := top 38
def d_is_format : EnP → Sto → SR := dSeq (dIfS (bOr (bNot (dTru (dCB fIsi (dCons (dV 0) (dCons (dC (.ty "tuple")) (dNil)))))) (bOr (dB (dBin (fEq true) (dCB fLen (dCons (dV 0) (dNil))) (dC (.int 4)))) (bNot (dTru (dCB F_is_within (dCons (dBin fIx (dV 0) (dC (.int 0))) (dCons (dC (.int 2)) (dCons (dC (.int c_MOST_BASE)) (dNil))))))))) (dRet (dC (.bl false))) (dPass)) (dSeq (dIfS (bNot (dTru (dCB F_is_within (dCons (dBin fIx (dV 0) (dC (.int 1))) (dCons (dC (.int 1)) (dCons (dC (.int c_MOST_FIGURES)) (dNil))))))) (dRet (dC (.bl false))) (dPass)) (dSeq (dIfS (bNot (dTru (dCB fAll (dCons (dLc false (iSeq (dSl false (dV 0) (dPart (dC (.int 2))) (dNoPart))) (cNm 1) (dYes) (dCB F_is_within (dCons (dV 1) (dCons (dUn fNeg (dC (.int c_MOST_EXPONENT))) (dCons (dC (.int c_MOST_EXPONENT)) (dNil))))) [1]) (dNil))))) (dRet (dC (.bl false))) (dPass)) (dRet (dAnd (dBin (fCmpI iLe) (dBin fIx (dV 0) (dC (.int 2))) (dBin fIx (dV 0) (dC (.int 3)))) (dCB F_is_short (dCons (dV 0) (dNil)))))))
def F_is_format : List PV → Sto → Res PV := runF 1 2 d_is_format
theorem sc_is_format : FnScope (["thing", "one"] : List Str) (["thing"] : List Str) (defScope s_is_format) := ⟨rfl, rfl, rfl, by decide +kernel, rfl, by decide +kernel, by decide +kernel⟩
theorem fc_is_format {Z : Wd} (B : Bi Z.mg) (hT : Z.T.lm = none) (h_MOST_BASE : ∃ t, Z.mg "MOST_BASE" = some (.int c_MOST_BASE t)) (h_MOST_FIGURES : ∃ t, Z.mg "MOST_FIGURES" = some (.int c_MOST_FIGURES t)) (h_MOST_EXPONENT : ∃ t, Z.mg "MOST_EXPONENT" = some (.int c_MOST_EXPONENT t)) (h_is_within : FC Z 2 "is_within" F_is_within) (h_is_short : FC Z 2 "is_short" F_is_short) (D : DefOk Z "is_format" s_is_format) : FC Z 3 "is_format" F_is_format := by
  have Sc := sc_is_format
  exact D.fc Sc (fun _ _ _ _ _ _ us hl => match us, hl with | [_], _ => rfl) fun f cdv A outer s H E C => by exact (css_cons (cs_if (ct_w (cw_or (ct_not (ct_tru (ce_callB (x := ("isinstance" : Str)) call_isi sl_isi rfl B.b_isinstance PyProof.Rows.boot_isinstance (ca_cons (ce_v 0) (ca_cons (ce_bty rfl B.b_tuple PyProof.Rows.boot_tuple) ca_nil))))) (cw_or (ct_cmp (op_neD (u64 C.u)) sn_ne (ce_callB (x := ("len" : Str)) call_len sl_len rfl B.b_len (by decide +kernel) (ca_cons (ce_v 0) ca_nil)) ce_int rfl) (cw_or1 (ct_not (ct_tru (ce_call h_is_within C (by decide) rfl (ca_cons (ce_ix (ce_v 0) ce_int (fun _ _ => rfl)) (ca_cons ce_int (ca_cons (ce_gi h_MOST_BASE rfl) ca_nil)))))))))) (css_one (cs_ret ce_bl)) css_nil) (css_cons (cs_if (ct_not (ct_tru (ce_call h_is_within C (by decide) rfl (ca_cons (ce_ix (ce_v 0) ce_int (fun _ _ => rfl)) (ca_cons ce_int (ca_cons (ce_gi h_MOST_FIGURES rfl) ca_nil)))))) (css_one (cs_ret ce_bl)) css_nil) (css_cons (cs_if (ct_not (ct_tru (ce_callB (x := ("all" : Str)) (cr_all C.calm) sl_all rfl B.b_all (by decide +kernel) (ca_cons (ce_lcC false (fun h => nomatch h) C Sc.nd (ci_seq (ce_sl false (fun h => nomatch h) (ce_v 0) (co_some ce_int) co_none)) (show BlkOk (["thing", "one"] : List Str) (defScope s_is_format) _ [(("one" : Str), 1)] from blkOk_by (by decide +kernel)) (fun _ _ _ _ _ C => (pg_name (i := 1) Sc.nd rfl (Or.inl rfl) (Or.inr rfl))) (tgc_name (by decide)) (fun _ _ _ _ _ _ => pts_yes) (fun _ _ _ _ _ C => (ce_call h_is_within C (by decide) rfl (ca_cons (ce_v 1) (ca_cons (ce_un un_neg sn_neg (ce_gi h_MOST_EXPONENT rfl)) (ca_cons (ce_gi h_MOST_EXPONENT rfl) ca_nil)))))) ca_nil)))) (css_one (cs_ret ce_bl)) css_nil) (css_one (cs_ret (ce_and (ce_cmp op_le (sn_cmpI iLe) (ce_ix (ce_v 0) ce_int (fun _ _ => rfl)) (ce_ix (ce_v 0) ce_int (fun _ _ => rfl)) rfl) (ce_one (ce_call h_is_short C (by decide) rfl (ca_cons (ce_v 0) ca_nil)))))))))
/-! check_format -/
abbrev s_check_format : Stmt := top 41
def d_check_format : EnP → Sto → SR := dIfS (bNot (dTru (dCB F_is_format (dCons (dV 0) (dNil))))) (dRaise ("NoFormat" : Str)) (dPass)
def F_check_format : List PV → Sto → Res PV := runF 1 1 d_check_format
theorem sc_check_format : FnScope (["thing"] : List Str) (["thing"] : List Str) (defScope s_check_format) := ⟨rfl, rfl, rfl, by decide +kernel, rfl, by decide +kernel, by decide +kernel⟩
theorem fc_check_format {Z : Wd} (B : Bi Z.mg) (hT : Z.T.lm = none) (e_NoFormat : EC Z.K Z.mg "NoFormat") (h_is_format : FC Z 3 "is_format" F_is_format) (D : DefOk Z "check_format" s_check_format) : FC Z 4 "check_format" F_check_format := by
  have Sc := sc_check_format
  exact D.fc Sc (fun _ _ _ _ _ _ us hl => match us, hl with | [_], _ => rfl) fun f cdv A outer s H E C => by exact (css_one (cs_if (ct_not (ct_tru (ce_call h_is_format C (by decide) rfl (ca_cons (ce_v 0) ca_nil)))) (css_one (cs_raise0 e_NoFormat C.calm C.tk rfl)) css_nil))
/-! check_way -/
abbrev s_check_way : Stmt := top 42
def d_check_way : EnP → Sto → SR := dIfS (bOr (bNot (dTru (dCB fIsi (dCons (dV 0) (dCons (dC (.ty "str")) (dNil)))))) (dB (dBin (fIn true) (dV 0) (dC c_WAYS)))) (dRaise ("NoWay" : Str)) (dPass)
def F_check_way : List PV → Sto → Res PV := runF 1 1 d_check_way
theorem sc_check_way : FnScope (["thing"] : List Str) (["thing"] : List Str) (defScope s_check_way) := ⟨rfl, rfl, rfl, by decide +kernel, rfl, by decide +kernel, by decide +kernel⟩
theorem fc_check_way {Z : Wd} (B : Bi Z.mg) (hT : Z.T.lm = none) (h_WAYS : ∃ v, Z.mg "WAYS" = some v ∧ Cst Z.K c_WAYS v) (e_NoWay : EC Z.K Z.mg "NoWay") (D : DefOk Z "check_way" s_check_way) : FC Z 1 "check_way" F_check_way := by
  have Sc := sc_check_way
  exact D.fc Sc (fun _ _ _ _ _ _ us hl => match us, hl with | [_], _ => rfl) fun f cdv A outer s H E C => by exact (css_one (cs_if (ct_w (cw_or (ct_not (ct_tru (ce_callB (x := ("isinstance" : Str)) call_isi sl_isi rfl B.b_isinstance PyProof.Rows.boot_isinstance (ca_cons (ce_v 0) (ca_cons (ce_bty rfl B.b_str PyProof.Rows.boot_str) ca_nil))))) (cw_or1 (ct_cmp op_notIn_seq (sn_in true) (ce_v 0) (ce_gT h_WAYS rfl) rfl)))) (css_one (cs_raise0 e_NoWay C.calm C.tk rfl)) css_nil))
/-! power -/
abbrev s_power : Stmt := top 43
def d_power : EnP → Sto → SR := dSeq (dSet 2 (dC (.int 1))) (dSeq (dFor (iRange (dCons (dCB fAbs (dCons (dV 1) (dNil))) (dNil))) (gNm 3) (dSet 2 (dBin (fMul false) (dV 2) (dV 0)))) (dRet (dIf (dB (dBin (fCmpI iGe) (dV 1) (dC (.int 0)))) (dTup (dCons (dV 2) (dCons (dC (.int 1)) (dNil)))) (dTup (dCons (dC (.int 1)) (dCons (dV 2) (dNil)))))))
def F_power : List PV → Sto → Res PV := runF 2 4 d_power
theorem sc_power : FnScope (["base", "e", "found", "turn"] : List Str) (["base", "e"] : List Str) (defScope s_power) := ⟨rfl, rfl, rfl, by decide +kernel, rfl, by decide +kernel, by decide +kernel⟩
theorem fc_power {Z : Wd} (B : Bi Z.mg) (hT : Z.T.lm = none) (D : DefOk Z "power" s_power) : FC Z 1 "power" F_power := by
  have Sc := sc_power
  exact D.fc Sc (fun _ _ _ _ _ _ us hl => match us, hl with | [_, _], _ => rfl) fun f cdv A outer s H E C => by exact (css_cons (cs_set (i := 2) Sc.nd rfl (Or.inl rfl) ce_int) (css_cons (cs_for C.po C.calm (ci_range1 rfl B.b_range (ca_cons (ce_callB (x := ("abs" : Str)) call_abs sl_abs rfl B.b_abs PyProof.Rows.boot_abs (ca_cons (ce_v 1) ca_nil)) ca_nil) rfl len1) (cg_name (i := 3) Sc.nd rfl (Or.inl rfl)) (css_one (cs_set (i := 2) Sc.nd rfl (Or.inl rfl) (ce_bin op_mulM (sn_mul false (fun h => nomatch h)) (ce_v 2) (ce_v 0))))) (css_one (cs_ret (ce_if (ct_cmp op_ge (sn_cmpI iGe) (ce_v 1) ce_int rfl) (ce_tup (ca_cons (ce_v 2) (ca_cons ce_int ca_nil))) (ce_tup (ca_cons ce_int (ca_cons (ce_v 2) ca_nil))))))))
/-! raw_most -/
abbrev s_raw_most : Stmt := top 44
def d_raw_most : EnP → Sto → SR := dSeq (dAsg (dV 0) (gTp 4 (gsCons (gNm 1) (gsCons (gNm 2) (gsCons (gNm 3) (gsCons (gNm 4) (gsNil))))))) (dRet (dCB F_raw_times (dCons (dTup (dCons (dBin fSub (dBin fIx (dCB F_power (dCons (dV 1) (dCons (dV 2) (dNil)))) (dC (.int 0))) (dC (.int 1))) (dCons (dC (.int 1)) (dNil)))) (dCons (dCB F_power (dCons (dV 1) (dCons (dV 4) (dNil)))) (dNil)))))
def F_raw_most : List PV → Sto → Res PV := runF 1 5 d_raw_most
theorem sc_raw_most : FnScope (["form", "base", "figures", "low", "high"] : List Str) (["form"] : List Str) (defScope s_raw_most) := ⟨rfl, rfl, rfl, by decide +kernel, rfl, by decide +kernel, by decide +kernel⟩
theorem fc_raw_most {Z : Wd} (B : Bi Z.mg) (hT : Z.T.lm = none) (h_raw_times : FC Z 3 "raw_times" F_raw_times) (h_power : FC Z 1 "power" F_power) (D : DefOk Z "raw_most" s_raw_most) : FC Z 4 "raw_most" F_raw_most := by
  have Sc := sc_raw_most
  exact D.fc Sc (fun _ _ _ _ _ _ us hl => match us, hl with | [_], _ => rfl) fun f cdv A outer s H E C => by exact (css_cons (cs_asg (ce_v 0) (cg_tup C.calm (cgs_cons (fun _ _ _ _ _ h => h) (cg_name (i := 1) Sc.nd rfl (Or.inl rfl)) (cgs_cons (fun _ _ _ _ _ h => h) (cg_name (i := 2) Sc.nd rfl (Or.inl rfl)) (cgs_cons (fun _ _ _ _ _ h => h) (cg_name (i := 3) Sc.nd rfl (Or.inl rfl)) (cgs_cons (fun _ _ _ _ _ h => h) (cg_name (i := 4) Sc.nd rfl (Or.inl rfl)) cgs_nil)))))) (css_one (cs_ret (ce_call h_raw_times C (by decide) rfl (ca_cons (ce_tup (ca_cons (ce_bin op_sub sn_sub (ce_ix (ce_call h_power C (by decide) rfl (ca_cons (ce_v 1) (ca_cons (ce_v 2) ca_nil))) ce_int (fun _ _ => rfl)) ce_int) (ca_cons ce_int ca_nil))) (ca_cons (ce_call h_power C (by decide) rfl (ca_cons (ce_v 1) (ca_cons (ce_v 4) ca_nil))) ca_nil))))))
/-! most_of -/
abbrev s_most_of : Stmt := top 45
def d_most_of : EnP → Sto → SR := dSeq (dExpr (dCB F_check_format (dCons (dV 0) (dNil)))) (dRet (dCB F_raw_most (dCons (dV 0) (dNil))))
def F_most_of : List PV → Sto → Res PV := runF 1 1 d_most_of
theorem sc_most_of : FnScope (["form"] : List Str) (["form"] : List Str) (defScope s_most_of) := ⟨rfl, rfl, rfl, by decide +kernel, rfl, by decide +kernel, by decide +kernel⟩
theorem fc_most_of {Z : Wd} (B : Bi Z.mg) (hT : Z.T.lm = none) (h_check_format : FC Z 4 "check_format" F_check_format) (h_raw_most : FC Z 4 "raw_most" F_raw_most) (D : DefOk Z "most_of" s_most_of) : FC Z 5 "most_of" F_most_of := by
  have Sc := sc_most_of
  exact D.fc Sc (fun _ _ _ _ _ _ us hl => match us, hl with | [_], _ => rfl) fun f cdv A outer s H E C => by exact (css_cons (cs_expr (ce_call h_check_format C (by decide) rfl (ca_cons (ce_v 0) ca_nil))) (css_one (cs_ret (ce_call h_raw_most C (by decide) rfl (ca_cons (ce_v 0) ca_nil)))))
/-! least_of -/
abbrev s_least_of : Stmt := top 46
def d_least_of : EnP → Sto → SR := dSeq (dExpr (dCB F_check_format (dCons (dV 0) (dNil)))) (dRet (dCB F_power (dCons (dBin fIx (dV 0) (dC (.int 0))) (dCons (dBin fIx (dV 0) (dC (.int 2))) (dNil)))))
def F_least_of : List PV → Sto → Res PV := runF 1 1 d_least_of
theorem sc_least_of : FnScope (["form"] : List Str) (["form"] : List Str) (defScope s_least_of) := ⟨rfl, rfl, rfl, by decide +kernel, rfl, by decide +kernel, by decide +kernel⟩
theorem fc_least_of {Z : Wd} (B : Bi Z.mg) (hT : Z.T.lm = none) (h_check_format : FC Z 4 "check_format" F_check_format) (h_power : FC Z 1 "power" F_power) (D : DefOk Z "least_of" s_least_of) : FC Z 5 "least_of" F_least_of := by
  have Sc := sc_least_of
  exact D.fc Sc (fun _ _ _ _ _ _ us hl => match us, hl with | [_], _ => rfl) fun f cdv A outer s H E C => by exact (css_cons (cs_expr (ce_call h_check_format C (by decide) rfl (ca_cons (ce_v 0) ca_nil))) (css_one (cs_ret (ce_call h_power C (by decide) rfl (ca_cons (ce_ix (ce_v 0) ce_int (fun _ _ => rfl)) (ca_cons (ce_ix (ce_v 0) ce_int (fun _ _ => rfl)) ca_nil))))))
/-! exponent_at -/
abbrev s_exponent_at : Stmt := top 47
def d_exponent_at : EnP → Sto → SR := dSeq (dAsg (dV 0) (gTp 4 (gsCons (gNm 2) (gsCons (gNm 3) (gsCons (gNm 4) (gsCons (gNm 5) (gsNil))))))) (dSeq (dPar 6 7 (dCons (dV 4) (dCons (dCB F_power (dCons (dV 2) (dCons (dBin (fAdd false) (dV 3) (dV 4)) (dNil)))) (dNil)))) (dSeq (dSet 8 (dCB F_raw_size (dCons (dV 1) (dNil)))) (dSeq (whileP (bNot (dB (dBin (fCmpI iLt) (dBin (fMul false) (dBin fIx (dV 8) (dC (.int 0))) (dBin fIx (dV 7) (dC (.int 1)))) (dBin (fMul false) (dBin fIx (dV 7) (dC (.int 0))) (dBin fIx (dV 8) (dC (.int 1))))))) (dSeq (dAug 6 fAddI (dC (.int 1))) (dSet 7 (dTup (dCons (dBin (fMul false) (dBin fIx (dV 7) (dC (.int 0))) (dV 2)) (dCons (dBin fIx (dV 7) (dC (.int 1))) (dNil)))))) fuel) (dRet (dV 6)))))
def F_exponent_at : List PV → Sto → Res PV := runF 2 9 d_exponent_at
theorem sc_exponent_at : FnScope (["form", "x", "base", "figures", "low", "high", "e", "most", "there"] : List Str) (["form", "x"] : List Str) (defScope s_exponent_at) := ⟨rfl, rfl, rfl, by decide +kernel, rfl, by decide +kernel, by decide +kernel⟩
theorem fc_exponent_at {Z : Wd} (B : Bi Z.mg) (hT : Z.T.lm = none) (h_power : FC Z 1 "power" F_power) (h_raw_size : FC Z 1 "raw_size" F_raw_size) (D : DefOk Z "exponent_at" s_exponent_at) : FC Z 2 "exponent_at" F_exponent_at := by
  have Sc := sc_exponent_at
  exact D.fc Sc (fun _ _ _ _ _ _ us hl => match us, hl with | [_, _], _ => rfl) fun f cdv A outer s H E C => by exact (css_cons (cs_asg (ce_v 0) (cg_tup C.calm (cgs_cons (fun _ _ _ _ _ h => h) (cg_name (i := 2) Sc.nd rfl (Or.inl rfl)) (cgs_cons (fun _ _ _ _ _ h => h) (cg_name (i := 3) Sc.nd rfl (Or.inl rfl)) (cgs_cons (fun _ _ _ _ _ h => h) (cg_name (i := 4) Sc.nd rfl (Or.inl rfl)) (cgs_cons (fun _ _ _ _ _ h => h) (cg_name (i := 5) Sc.nd rfl (Or.inl rfl)) cgs_nil)))))) (css_cons (cs_par (i := 6) (j := 7) C.calm Sc.nd rfl rfl (by decide) rfl rfl (ca_cons (ce_v 4) (ca_cons (ce_call h_power C (by decide) rfl (ca_cons (ce_v 2) (ca_cons (ce_bin op_addM (sn_add false (fun h => nomatch h)) (ce_v 3) (ce_v 4)) ca_nil))) ca_nil)) rfl) (css_cons (cs_set (i := 8) Sc.nd rfl (Or.inl rfl) (ce_call h_raw_size C (by decide) rfl (ca_cons (ce_v 1) ca_nil))) (css_cons (cs_while fuel C.po (ct_not (ct_cmp op_lt (sn_cmpI iLt) (ce_bin op_mulM (sn_mul false (fun h => nomatch h)) (ce_ix (ce_v 8) ce_int (fun _ _ => rfl)) (ce_ix (ce_v 7) ce_int (fun _ _ => rfl))) (ce_bin op_mulM (sn_mul false (fun h => nomatch h)) (ce_ix (ce_v 7) ce_int (fun _ _ => rfl)) (ce_ix (ce_v 8) ce_int (fun _ _ => rfl))) rfl)) (css_cons (cs_aug (i := 6) Sc.nd rfl (Or.inl rfl) ce_int iop_add sn_addI) (css_one (cs_set (i := 7) Sc.nd rfl (Or.inl rfl) (ce_tup (ca_cons (ce_bin op_mulM (sn_mul false (fun h => nomatch h)) (ce_ix (ce_v 7) ce_int (fun _ _ => rfl)) (ce_v 2)) (ca_cons (ce_ix (ce_v 7) ce_int (fun _ _ => rfl)) ca_nil))))))) (css_one (cs_ret (ce_v 6)))))))
/-! raw_gap -/
abbrev s_raw_gap : Stmt := top 48
def d_raw_gap : EnP → Sto → SR := dRet (dCB F_power (dCons (dBin fIx (dV 0) (dC (.int 0))) (dCons (dCB F_exponent_at (dCons (dV 0) (dCons (dV 1) (dNil)))) (dNil))))
def F_raw_gap : List PV → Sto → Res PV := runF 2 2 d_raw_gap
theorem sc_raw_gap : FnScope (["form", "x"] : List Str) (["form", "x"] : List Str) (defScope s_raw_gap) := ⟨rfl, rfl, rfl, by decide +kernel, rfl, by decide +kernel, by decide +kernel⟩
theorem fc_raw_gap {Z : Wd} (B : Bi Z.mg) (hT : Z.T.lm = none) (h_power : FC Z 1 "power" F_power) (h_exponent_at : FC Z 2 "exponent_at" F_exponent_at) (D : DefOk Z "raw_gap" s_raw_gap) : FC Z 3 "raw_gap" F_raw_gap := by
  have Sc := sc_raw_gap
  exact D.fc Sc (fun _ _ _ _ _ _ us hl => match us, hl with | [_, _], _ => rfl) fun f cdv A outer s H E C => by exact (css_one (cs_ret (ce_call h_power C (by decide) rfl (ca_cons (ce_ix (ce_v 0) ce_int (fun _ _ => rfl)) (ca_cons (ce_call h_exponent_at C (by decide) rfl (ca_cons (ce_v 0) (ca_cons (ce_v 1) ca_nil))) ca_nil)))))
/-! gap_at -/
abbrev s_gap_at : Stmt := top 49
def d_gap_at : EnP → Sto → SR := dSeq (dExpr (dCB F_check_format (dCons (dV 0) (dNil)))) (dSeq (dExpr (dCB F_check_fraction (dCons (dV 1) (dNil)))) (dRet (dCB F_raw_gap (dCons (dV 0) (dCons (dV 1) (dNil))))))
def F_gap_at : List PV → Sto → Res PV := runF 2 2 d_gap_at
theorem sc_gap_at : FnScope (["form", "x"] : List Str) (["form", "x"] : List Str) (defScope s_gap_at) := ⟨rfl, rfl, rfl, by decide +kernel, rfl, by decide +kernel, by decide +kernel⟩
theorem fc_gap_at {Z : Wd} (B : Bi Z.mg) (hT : Z.T.lm = none) (h_check_format : FC Z 4 "check_format" F_check_format) (h_check_fraction : FC Z 3 "check_fraction" F_check_fraction) (h_raw_gap : FC Z 3 "raw_gap" F_raw_gap) (D : DefOk Z "gap_at" s_gap_at) : FC Z 5 "gap_at" F_gap_at := by
  have Sc := sc_gap_at
  exact D.fc Sc (fun _ _ _ _ _ _ us hl => match us, hl with | [_, _], _ => rfl) fun f cdv A outer s H E C => by exact (css_cons (cs_expr (ce_call h_check_format C (by decide) rfl (ca_cons (ce_v 0) ca_nil))) (css_cons (cs_expr (ce_call h_check_fraction C (by decide) rfl (ca_cons (ce_v 1) ca_nil))) (css_one (cs_ret (ce_call h_raw_gap C (by decide) rfl (ca_cons (ce_v 0) (ca_cons (ce_v 1) ca_nil)))))))
/-! near_integer -/
abbrev s_near_integer : Stmt := top 50
def d_near_integer : EnP → Sto → SR := dSeq (dSet 1 (dBin fDiv (dBin fIx (dV 0) (dC (.int 0))) (dBin fIx (dV 0) (dC (.int 1))))) (dSeq (dSet 2 (dBin (fMul false) (dC (.int 2)) (dBin fSub (dBin fIx (dV 0) (dC (.int 0))) (dBin (fMul false) (dV 1) (dBin fIx (dV 0) (dC (.int 1))))))) (dSeq (dIfS (dB (dBin (fEq false) (dV 2) (dBin fIx (dV 0) (dC (.int 1))))) (dRet (dIf (dB (dBin (fEq false) (dBin fMod (dV 1) (dC (.int 2))) (dC (.int 0)))) (dV 1) (dBin (fAdd false) (dV 1) (dC (.int 1))))) (dPass)) (dRet (dIf (dB (dBin (fCmpI iLt) (dV 2) (dBin fIx (dV 0) (dC (.int 1))))) (dV 1) (dBin (fAdd false) (dV 1) (dC (.int 1)))))))
def F_near_integer : List PV → Sto → Res PV := runF 1 3 d_near_integer
theorem sc_near_integer : FnScope (["x", "low", "rest"] : List Str) (["x"] : List Str) (defScope s_near_integer) := ⟨rfl, rfl, rfl, by decide +kernel, rfl, by decide +kernel, by decide +kernel⟩
theorem fc_near_integer {Z : Wd} (B : Bi Z.mg) (hT : Z.T.lm = none) (D : DefOk Z "near_integer" s_near_integer) : FC Z 1 "near_integer" F_near_integer := by
  have Sc := sc_near_integer
  exact D.fc Sc (fun _ _ _ _ _ _ us hl => match us, hl with | [_], _ => rfl) fun f cdv A outer s H E C => by exact (css_cons (cs_set (i := 1) Sc.nd rfl (Or.inl rfl) (ce_bin op_fdivA sn_div (ce_ix (ce_v 0) ce_int (fun _ _ => rfl)) (ce_ix (ce_v 0) ce_int (fun _ _ => rfl)))) (css_cons (cs_set (i := 2) Sc.nd rfl (Or.inl rfl) (ce_bin op_mulM (sn_mul false (fun h => nomatch h)) ce_int (ce_bin op_sub sn_sub (ce_ix (ce_v 0) ce_int (fun _ _ => rfl)) (ce_bin op_mulM (sn_mul false (fun h => nomatch h)) (ce_v 1) (ce_ix (ce_v 0) ce_int (fun _ _ => rfl)))))) (css_cons (cs_if (ct_cmp (op_eqD (u64 C.u)) sn_eq (ce_v 2) (ce_ix (ce_v 0) ce_int (fun _ _ => rfl)) rfl) (css_one (cs_ret (ce_if (ct_cmp (op_eqD (u64 C.u)) sn_eq (ce_bin op_modN sn_mod (ce_v 1) ce_int) ce_int rfl) (ce_v 1) (ce_bin op_addM (sn_add false (fun h => nomatch h)) (ce_v 1) ce_int)))) css_nil) (css_one (cs_ret (ce_if (ct_cmp op_lt (sn_cmpI iLt) (ce_v 2) (ce_ix (ce_v 0) ce_int (fun _ _ => rfl)) rfl) (ce_v 1) (ce_bin op_addM (sn_add false (fun h => nomatch h)) (ce_v 1) ce_int)))))))
/-! integer_by -/
abbrev s_integer_by : Stmt := top 51
def d_integer_by : EnP → Sto → SR := dSeq (dSet 2 (dBin fDiv (dBin fIx (dV 1) (dC (.int 0))) (dBin fIx (dV 1) (dC (.int 1))))) (dSeq (dIfS (dB (dBin (fEq false) (dV 0) (dC (.str c_NEAR)))) (dRet (dCB F_near_integer (dCons (dV 1) (dNil)))) (dPass)) (dSeq (dIfS (bOr (dB (dBin (fEq false) (dV 0) (dC (.str c_DOWN)))) (bAnd (dB (dBin (fEq false) (dV 0) (dC (.str c_TO_ZERO)))) (dB (dBin (fCmpI iGe) (dBin fIx (dV 1) (dC (.int 0))) (dC (.int 0)))))) (dRet (dV 2)) (dPass)) (dRet (dUn fNeg (dBin fDiv (dUn fNeg (dBin fIx (dV 1) (dC (.int 0)))) (dBin fIx (dV 1) (dC (.int 1))))))))
def F_integer_by : List PV → Sto → Res PV := runF 2 3 d_integer_by
theorem sc_integer_by : FnScope (["way", "x", "low"] : List Str) (["way", "x"] : List Str) (defScope s_integer_by) := ⟨rfl, rfl, rfl, by decide +kernel, rfl, by decide +kernel, by decide +kernel⟩
theorem fc_integer_by {Z : Wd} (B : Bi Z.mg) (hT : Z.T.lm = none) (h_NEAR : ∃ t, Z.mg "NEAR" = some (.str c_NEAR t)) (h_DOWN : ∃ t, Z.mg "DOWN" = some (.str c_DOWN t)) (h_TO_ZERO : ∃ t, Z.mg "TO_ZERO" = some (.str c_TO_ZERO t)) (h_near_integer : FC Z 1 "near_integer" F_near_integer) (D : DefOk Z "integer_by" s_integer_by) : FC Z 2 "integer_by" F_integer_by := by
  have Sc := sc_integer_by
  exact D.fc Sc (fun _ _ _ _ _ _ us hl => match us, hl with | [_, _], _ => rfl) fun f cdv A outer s H E C => by exact (css_cons (cs_set (i := 2) Sc.nd rfl (Or.inl rfl) (ce_bin op_fdivA sn_div (ce_ix (ce_v 1) ce_int (fun _ _ => rfl)) (ce_ix (ce_v 1) ce_int (fun _ _ => rfl)))) (css_cons (cs_if (ct_cmp (op_eqD (u64 C.u)) sn_eq (ce_v 0) (ce_gS h_NEAR rfl) rfl) (css_one (cs_ret (ce_call h_near_integer C (by decide) rfl (ca_cons (ce_v 1) ca_nil)))) css_nil) (css_cons (cs_if (ct_w (cw_or (ct_cmp (op_eqD (u64 C.u)) sn_eq (ce_v 0) (ce_gS h_DOWN rfl) rfl) (cw_or1 (ct_w (cw_and (ct_cmp (op_eqD (u64 C.u)) sn_eq (ce_v 0) (ce_gS h_TO_ZERO rfl) rfl) (cw_and1 (ct_cmp op_ge (sn_cmpI iGe) (ce_ix (ce_v 1) ce_int (fun _ _ => rfl)) ce_int rfl))))))) (css_one (cs_ret (ce_v 2))) css_nil) (css_one (cs_ret (ce_un un_neg sn_neg (ce_bin op_fdivA sn_div (ce_un un_neg sn_neg (ce_ix (ce_v 1) ce_int (fun _ _ => rfl))) (ce_ix (ce_v 1) ce_int (fun _ _ => rfl)))))))))
/-! raw_rounded -/
abbrev s_raw_rounded : Stmt := top 52
def d_raw_rounded : EnP → Sto → SR := dSeq (dPar 3 4 (dCons (dCB F_raw_gap (dCons (dV 0) (dCons (dV 2) (dNil)))) (dCons (dCB F_raw_most (dCons (dV 0) (dNil))) (dNil)))) (dSeq (dSet 5 (dCB F_integer_by (dCons (dV 1) (dCons (dTup (dCons (dBin (fMul false) (dBin fIx (dV 2) (dC (.int 0))) (dBin fIx (dV 3) (dC (.int 1)))) (dCons (dBin (fMul false) (dBin fIx (dV 2) (dC (.int 1))) (dBin fIx (dV 3) (dC (.int 0)))) (dNil)))) (dNil))))) (dSeq (dIfS (dB (dBin (fCmpI iGt) (dBin (fMul false) (dBin (fMul false) (dCB fAbs (dCons (dV 5) (dNil))) (dBin fIx (dV 3) (dC (.int 0)))) (dBin fIx (dV 4) (dC (.int 1)))) (dBin (fMul false) (dBin fIx (dV 4) (dC (.int 0))) (dBin fIx (dV 3) (dC (.int 1)))))) (dRet (dC .non)) (dPass)) (dRet (dCB F_raw_times (dCons (dTup (dCons (dV 5) (dCons (dC (.int 1)) (dNil)))) (dCons (dV 3) (dNil)))))))
def F_raw_rounded : List PV → Sto → Res PV := runF 3 6 d_raw_rounded
theorem sc_raw_rounded : FnScope (["form", "way", "x", "gap", "most", "whole"] : List Str) (["form", "way", "x"] : List Str) (defScope s_raw_rounded) := ⟨rfl, rfl, rfl, by decide +kernel, rfl, by decide +kernel, by decide +kernel⟩
theorem fc_raw_rounded {Z : Wd} (B : Bi Z.mg) (hT : Z.T.lm = none) (h_raw_gap : FC Z 3 "raw_gap" F_raw_gap) (h_raw_most : FC Z 4 "raw_most" F_raw_most) (h_integer_by : FC Z 2 "integer_by" F_integer_by) (h_raw_times : FC Z 3 "raw_times" F_raw_times) (D : DefOk Z "raw_rounded" s_raw_rounded) : FC Z 5 "raw_rounded" F_raw_rounded := by
  have Sc := sc_raw_rounded
  exact D.fc Sc (fun _ _ _ _ _ _ us hl => match us, hl with | [_, _, _], _ => rfl) fun f cdv A outer s H E C => by exact (css_cons (cs_par (i := 3) (j := 4) C.calm Sc.nd rfl rfl (by decide) rfl rfl (ca_cons (ce_call h_raw_gap C (by decide) rfl (ca_cons (ce_v 0) (ca_cons (ce_v 2) ca_nil))) (ca_cons (ce_call h_raw_most C (by decide) rfl (ca_cons (ce_v 0) ca_nil)) ca_nil)) rfl) (css_cons (cs_set (i := 5) Sc.nd rfl (Or.inl rfl) (ce_call h_integer_by C (by decide) rfl (ca_cons (ce_v 1) (ca_cons (ce_tup (ca_cons (ce_bin op_mulM (sn_mul false (fun h => nomatch h)) (ce_ix (ce_v 2) ce_int (fun _ _ => rfl)) (ce_ix (ce_v 3) ce_int (fun _ _ => rfl))) (ca_cons (ce_bin op_mulM (sn_mul false (fun h => nomatch h)) (ce_ix (ce_v 2) ce_int (fun _ _ => rfl)) (ce_ix (ce_v 3) ce_int (fun _ _ => rfl))) ca_nil))) ca_nil)))) (css_cons (cs_if (ct_cmp op_gt (sn_cmpI iGt) (ce_bin op_mulM (sn_mul false (fun h => nomatch h)) (ce_bin op_mulM (sn_mul false (fun h => nomatch h)) (ce_callB (x := ("abs" : Str)) call_abs sl_abs rfl B.b_abs PyProof.Rows.boot_abs (ca_cons (ce_v 5) ca_nil)) (ce_ix (ce_v 3) ce_int (fun _ _ => rfl))) (ce_ix (ce_v 4) ce_int (fun _ _ => rfl))) (ce_bin op_mulM (sn_mul false (fun h => nomatch h)) (ce_ix (ce_v 4) ce_int (fun _ _ => rfl)) (ce_ix (ce_v 3) ce_int (fun _ _ => rfl))) rfl) (css_one (cs_ret ce_non)) css_nil) (css_one (cs_ret (ce_call h_raw_times C (by decide) rfl (ca_cons (ce_tup (ca_cons (ce_v 5) (ca_cons ce_int ca_nil))) (ca_cons (ce_v 3) ca_nil))))))))
/-! rounded -/
abbrev s_rounded : Stmt := top 53
def d_rounded : EnP → Sto → SR := dSeq (dExpr (dCB F_check_format (dCons (dV 0) (dNil)))) (dSeq (dExpr (dCB F_check_way (dCons (dV 1) (dNil)))) (dSeq (dExpr (dCB F_check_fraction (dCons (dV 2) (dNil)))) (dRet (dCB F_raw_rounded (dCons (dV 0) (dCons (dV 1) (dCons (dV 2) (dNil))))))))
def F_rounded : List PV → Sto → Res PV := runF 3 3 d_rounded
theorem sc_rounded : FnScope (["form", "way", "x"] : List Str) (["form", "way", "x"] : List Str) (defScope s_rounded) := ⟨rfl, rfl, rfl, by decide +kernel, rfl, by decide +kernel, by decide +kernel⟩
theorem fc_rounded {Z : Wd} (B : Bi Z.mg) (hT : Z.T.lm = none) (h_check_format : FC Z 4 "check_format" F_check_format) (h_check_way : FC Z 1 "check_way" F_check_way) (h_check_fraction : FC Z 3 "check_fraction" F_check_fraction) (h_raw_rounded : FC Z 5 "raw_rounded" F_raw_rounded) (D : DefOk Z "rounded" s_rounded) : FC Z 6 "rounded" F_rounded := by
  have Sc := sc_rounded
  exact D.fc Sc (fun _ _ _ _ _ _ us hl => match us, hl with | [_, _, _], _ => rfl) fun f cdv A outer s H E C => by exact (css_cons (cs_expr (ce_call h_check_format C (by decide) rfl (ca_cons (ce_v 0) ca_nil))) (css_cons (cs_expr (ce_call h_check_way C (by decide) rfl (ca_cons (ce_v 1) ca_nil))) (css_cons (cs_expr (ce_call h_check_fraction C (by decide) rfl (ca_cons (ce_v 2) ca_nil))) (css_one (cs_ret (ce_call h_raw_rounded C (by decide) rfl (ca_cons (ce_v 0) (ca_cons (ce_v 1) (ca_cons (ce_v 2) ca_nil)))))))))
/-! raw_is_number -/
abbrev s_raw_is_number : Stmt := top 54
def d_raw_is_number : EnP → Sto → SR := dSeq (dSet 2 (dCB F_raw_gap (dCons (dV 0) (dCons (dV 1) (dNil))))) (dRet (dAnd (dCB F_raw_at_most (dCons (dCB F_raw_size (dCons (dV 1) (dNil))) (dCons (dCB F_raw_most (dCons (dV 0) (dNil))) (dNil)))) (dBin (fEq false) (dBin fMod (dBin (fMul false) (dBin fIx (dV 1) (dC (.int 0))) (dBin fIx (dV 2) (dC (.int 1)))) (dBin (fMul false) (dBin fIx (dV 1) (dC (.int 1))) (dBin fIx (dV 2) (dC (.int 0))))) (dC (.int 0)))))
def F_raw_is_number : List PV → Sto → Res PV := runF 2 3 d_raw_is_number
theorem sc_raw_is_number : FnScope (["form", "x", "gap"] : List Str) (["form", "x"] : List Str) (defScope s_raw_is_number) := ⟨rfl, rfl, rfl, by decide +kernel, rfl, by decide +kernel, by decide +kernel⟩
theorem fc_raw_is_number {Z : Wd} (B : Bi Z.mg) (hT : Z.T.lm = none) (h_raw_gap : FC Z 3 "raw_gap" F_raw_gap) (h_raw_at_most : FC Z 1 "raw_at_most" F_raw_at_most) (h_raw_most : FC Z 4 "raw_most" F_raw_most) (h_raw_size : FC Z 1 "raw_size" F_raw_size) (D : DefOk Z "raw_is_number" s_raw_is_number) : FC Z 5 "raw_is_number" F_raw_is_number := by
  have Sc := sc_raw_is_number
  exact D.fc Sc (fun _ _ _ _ _ _ us hl => match us, hl with | [_, _], _ => rfl) fun f cdv A outer s H E C => by exact (css_cons (cs_set (i := 2) Sc.nd rfl (Or.inl rfl) (ce_call h_raw_gap C (by decide) rfl (ca_cons (ce_v 0) (ca_cons (ce_v 1) ca_nil)))) (css_one (cs_ret (ce_and (ce_call h_raw_at_most C (by decide) rfl (ca_cons (ce_call h_raw_size C (by decide) rfl (ca_cons (ce_v 1) ca_nil)) (ca_cons (ce_call h_raw_most C (by decide) rfl (ca_cons (ce_v 0) ca_nil)) ca_nil))) (ce_one (ce_cmp (op_eqD (u64 C.u)) sn_eq (ce_bin op_modN sn_mod (ce_bin op_mulM (sn_mul false (fun h => nomatch h)) (ce_ix (ce_v 1) ce_int (fun _ _ => rfl)) (ce_ix (ce_v 2) ce_int (fun _ _ => rfl))) (ce_bin op_mulM (sn_mul false (fun h => nomatch h)) (ce_ix (ce_v 1) ce_int (fun _ _ => rfl)) (ce_ix (ce_v 2) ce_int (fun _ _ => rfl)))) ce_int rfl))))))
/-! is_number_of -/
abbrev s_is_number_of : Stmt := top 55
def d_is_number_of : EnP → Sto → SR := dSeq (dExpr (dCB F_check_format (dCons (dV 0) (dNil)))) (dSeq (dExpr (dCB F_check_fraction (dCons (dV 1) (dNil)))) (dRet (dCB F_raw_is_number (dCons (dV 0) (dCons (dV 1) (dNil))))))
def F_is_number_of : List PV → Sto → Res PV := runF 2 2 d_is_number_of
theorem sc_is_number_of : FnScope (["form", "x"] : List Str) (["form", "x"] : List Str) (defScope s_is_number_of) := ⟨rfl, rfl, rfl, by decide +kernel, rfl, by decide +kernel, by decide +kernel⟩
theorem fc_is_number_of {Z : Wd} (B : Bi Z.mg) (hT : Z.T.lm = none) (h_check_format : FC Z 4 "check_format" F_check_format) (h_check_fraction : FC Z 3 "check_fraction" F_check_fraction) (h_raw_is_number : FC Z 5 "raw_is_number" F_raw_is_number) (D : DefOk Z "is_number_of" s_is_number_of) : FC Z 6 "is_number_of" F_is_number_of := by
  have Sc := sc_is_number_of
  exact D.fc Sc (fun _ _ _ _ _ _ us hl => match us, hl with | [_, _], _ => rfl) fun f cdv A outer s H E C => by exact (css_cons (cs_expr (ce_call h_check_format C (by decide) rfl (ca_cons (ce_v 0) ca_nil))) (css_cons (cs_expr (ce_call h_check_fraction C (by decide) rfl (ca_cons (ce_v 1) ca_nil))) (css_one (cs_ret (ce_call h_raw_is_number C (by decide) rfl (ca_cons (ce_v 0) (ca_cons (ce_v 1) ca_nil)))))))
/-! beside -/
abbrev s_beside : Stmt := top 56
def d_beside : EnP → Sto → SR := dSeq (dSet 3 (dCB F_power (dCons (dBin fIx (dV 0) (dC (.int 0))) (dCons (dBin fIx (dV 0) (dC (.int 2))) (dNil))))) (dSeq (dSet 4 (dIf (dB (dBin (fEq false) (dV 2) (dC (.str c_UP)))) (dTup (dCons (dBin fIx (dV 3) (dC (.int 0))) (dCons (dBin (fMul false) (dC (.int 8)) (dBin fIx (dV 3) (dC (.int 1)))) (dNil)))) (dTup (dCons (dUn fNeg (dBin fIx (dV 3) (dC (.int 0)))) (dCons (dBin (fMul false) (dC (.int 8)) (dBin fIx (dV 3) (dC (.int 1)))) (dNil)))))) (dSeq (dSet 5 (dTup (dCons (dBin (fAdd false) (dBin (fMul false) (dBin fIx (dV 1) (dC (.int 0))) (dBin fIx (dV 4) (dC (.int 1)))) (dBin (fMul false) (dBin fIx (dV 4) (dC (.int 0))) (dBin fIx (dV 1) (dC (.int 1))))) (dCons (dBin (fMul false) (dBin fIx (dV 1) (dC (.int 1))) (dBin fIx (dV 4) (dC (.int 1)))) (dNil))))) (dRet (dCB F_raw_rounded (dCons (dV 0) (dCons (dV 2) (dCons (dCB F_raw_times (dCons (dV 5) (dCons (dTup (dCons (dC (.int 1)) (dCons (dC (.int 1)) (dNil)))) (dNil)))) (dNil))))))))
def F_beside : List PV → Sto → Res PV := runF 3 6 d_beside
theorem sc_beside : FnScope (["form", "x", "way", "least", "step", "there"] : List Str) (["form", "x", "way"] : List Str) (defScope s_beside) := ⟨rfl, rfl, rfl, by decide +kernel, rfl, by decide +kernel, by decide +kernel⟩
theorem fc_beside {Z : Wd} (B : Bi Z.mg) (hT : Z.T.lm = none) (h_UP : ∃ t, Z.mg "UP" = some (.str c_UP t)) (h_power : FC Z 1 "power" F_power) (h_raw_rounded : FC Z 5 "raw_rounded" F_raw_rounded) (h_raw_times : FC Z 3 "raw_times" F_raw_times) (D : DefOk Z "beside" s_beside) : FC Z 6 "beside" F_beside := by
  have Sc := sc_beside
  exact D.fc Sc (fun _ _ _ _ _ _ us hl => match us, hl with | [_, _, _], _ => rfl) fun f cdv A outer s H E C => by exact (css_cons (cs_set (i := 3) Sc.nd rfl (Or.inl rfl) (ce_call h_power C (by decide) rfl (ca_cons (ce_ix (ce_v 0) ce_int (fun _ _ => rfl)) (ca_cons (ce_ix (ce_v 0) ce_int (fun _ _ => rfl)) ca_nil)))) (css_cons (cs_set (i := 4) Sc.nd rfl (Or.inl rfl) (ce_if (ct_cmp (op_eqD (u64 C.u)) sn_eq (ce_v 2) (ce_gS h_UP rfl) rfl) (ce_tup (ca_cons (ce_ix (ce_v 3) ce_int (fun _ _ => rfl)) (ca_cons (ce_bin op_mulM (sn_mul false (fun h => nomatch h)) ce_int (ce_ix (ce_v 3) ce_int (fun _ _ => rfl))) ca_nil))) (ce_tup (ca_cons (ce_un un_neg sn_neg (ce_ix (ce_v 3) ce_int (fun _ _ => rfl))) (ca_cons (ce_bin op_mulM (sn_mul false (fun h => nomatch h)) ce_int (ce_ix (ce_v 3) ce_int (fun _ _ => rfl))) ca_nil))))) (css_cons (cs_set (i := 5) Sc.nd rfl (Or.inl rfl) (ce_tup (ca_cons (ce_bin op_addM (sn_add false (fun h => nomatch h)) (ce_bin op_mulM (sn_mul false (fun h => nomatch h)) (ce_ix (ce_v 1) ce_int (fun _ _ => rfl)) (ce_ix (ce_v 4) ce_int (fun _ _ => rfl))) (ce_bin op_mulM (sn_mul false (fun h => nomatch h)) (ce_ix (ce_v 4) ce_int (fun _ _ => rfl)) (ce_ix (ce_v 1) ce_int (fun _ _ => rfl)))) (ca_cons (ce_bin op_mulM (sn_mul false (fun h => nomatch h)) (ce_ix (ce_v 1) ce_int (fun _ _ => rfl)) (ce_ix (ce_v 4) ce_int (fun _ _ => rfl))) ca_nil)))) (css_one (cs_ret (ce_call h_raw_rounded C (by decide) rfl (ca_cons (ce_v 0) (ca_cons (ce_v 2) (ca_cons (ce_call h_raw_times C (by decide) rfl (ca_cons (ce_v 5) (ca_cons (ce_tup (ca_cons ce_int (ca_cons ce_int ca_nil))) ca_nil))) ca_nil)))))))))
/-! check_number -/
abbrev s_check_number : Stmt := top 57
def d_check_number : EnP → Sto → SR := dSeq (dExpr (dCB F_check_format (dCons (dV 0) (dNil)))) (dIfS (bOr (bNot (dTru (dCB F_is_fraction (dCons (dV 1) (dNil))))) (bNot (dTru (dCB F_raw_is_number (dCons (dV 0) (dCons (dV 1) (dNil))))))) (dRaise ("NoNumberOf" : Str)) (dPass))
def F_check_number : List PV → Sto → Res PV := runF 2 2 d_check_number
theorem sc_check_number : FnScope (["form", "x"] : List Str) (["form", "x"] : List Str) (defScope s_check_number) := ⟨rfl, rfl, rfl, by decide +kernel, rfl, by decide +kernel, by decide +kernel⟩
theorem fc_check_number {Z : Wd} (B : Bi Z.mg) (hT : Z.T.lm = none) (e_NoNumberOf : EC Z.K Z.mg "NoNumberOf") (h_check_format : FC Z 4 "check_format" F_check_format) (h_is_fraction : FC Z 2 "is_fraction" F_is_fraction) (h_raw_is_number : FC Z 5 "raw_is_number" F_raw_is_number) (D : DefOk Z "check_number" s_check_number) : FC Z 6 "check_number" F_check_number := by
  have Sc := sc_check_number
  exact D.fc Sc (fun _ _ _ _ _ _ us hl => match us, hl with | [_, _], _ => rfl) fun f cdv A outer s H E C => by exact (css_cons (cs_expr (ce_call h_check_format C (by decide) rfl (ca_cons (ce_v 0) ca_nil))) (css_one (cs_if (ct_w (cw_or (ct_not (ct_tru (ce_call h_is_fraction C (by decide) rfl (ca_cons (ce_v 1) ca_nil)))) (cw_or1 (ct_not (ct_tru (ce_call h_raw_is_number C (by decide) rfl (ca_cons (ce_v 0) (ca_cons (ce_v 1) ca_nil)))))))) (css_one (cs_raise0 e_NoNumberOf C.calm C.tk rfl)) css_nil)))
/-! next_up -/
abbrev s_next_up : Stmt := top 58
def d_next_up : EnP → Sto → SR := dSeq (dExpr (dCB F_check_number (dCons (dV 0) (dCons (dV 1) (dNil))))) (dRet (dCB F_beside (dCons (dV 0) (dCons (dV 1) (dCons (dC (.str c_UP)) (dNil))))))
def F_next_up : List PV → Sto → Res PV := runF 2 2 d_next_up
theorem sc_next_up : FnScope (["form", "x"] : List Str) (["form", "x"] : List Str) (defScope s_next_up) := ⟨rfl, rfl, rfl, by decide +kernel, rfl, by decide +kernel, by decide +kernel⟩
theorem fc_next_up {Z : Wd} (B : Bi Z.mg) (hT : Z.T.lm = none) (h_UP : ∃ t, Z.mg "UP" = some (.str c_UP t)) (h_check_number : FC Z 6 "check_number" F_check_number) (h_beside : FC Z 6 "beside" F_beside) (D : DefOk Z "next_up" s_next_up) : FC Z 7 "next_up" F_next_up := by
  have Sc := sc_next_up
  exact D.fc Sc (fun _ _ _ _ _ _ us hl => match us, hl with | [_, _], _ => rfl) fun f cdv A outer s H E C => by exact (css_cons (cs_expr (ce_call h_check_number C (by decide) rfl (ca_cons (ce_v 0) (ca_cons (ce_v 1) ca_nil)))) (css_one (cs_ret (ce_call h_beside C (by decide) rfl (ca_cons (ce_v 0) (ca_cons (ce_v 1) (ca_cons (ce_gS h_UP rfl) ca_nil)))))))
/-! next_down -/
abbrev s_next_down : Stmt := top 59
def d_next_down : EnP → Sto → SR := dSeq (dExpr (dCB F_check_number (dCons (dV 0) (dCons (dV 1) (dNil))))) (dRet (dCB F_beside (dCons (dV 0) (dCons (dV 1) (dCons (dC (.str c_DOWN)) (dNil))))))
def F_next_down : List PV → Sto → Res PV := runF 2 2 d_next_down
theorem sc_next_down : FnScope (["form", "x"] : List Str) (["form", "x"] : List Str) (defScope s_next_down) := ⟨rfl, rfl, rfl, by decide +kernel, rfl, by decide +kernel, by decide +kernel⟩
theorem fc_next_down {Z : Wd} (B : Bi Z.mg) (hT : Z.T.lm = none) (h_DOWN : ∃ t, Z.mg "DOWN" = some (.str c_DOWN t)) (h_check_number : FC Z 6 "check_number" F_check_number) (h_beside : FC Z 6 "beside" F_beside) (D : DefOk Z "next_down" s_next_down) : FC Z 7 "next_down" F_next_down := by
  have Sc := sc_next_down
  exact D.fc Sc (fun _ _ _ _ _ _ us hl => match us, hl with | [_, _], _ => rfl) fun f cdv A outer s H E C => by exact (css_cons (cs_expr (ce_call h_check_number C (by decide) rfl (ca_cons (ce_v 0) (ca_cons (ce_v 1) ca_nil)))) (css_one (cs_ret (ce_call h_beside C (by decide) rfl (ca_cons (ce_v 0) (ca_cons (ce_v 1) (ca_cons (ce_gS h_DOWN rfl) ca_nil)))))))
/-! raw_off -/
abbrev s_raw_off : Stmt := top 60
def d_raw_off : EnP → Sto → SR := dSeq (dSet 3 (dCB F_raw_gap (dCons (dV 0) (dCons (dV 2) (dNil))))) (dRet (dIf (dB (dBin (fEq false) (dV 1) (dC (.str c_NEAR)))) (dCB F_raw_times (dCons (dV 3) (dCons (dTup (dCons (dC (.int 1)) (dCons (dC (.int 2)) (dNil)))) (dNil)))) (dV 3)))
def F_raw_off : List PV → Sto → Res PV := runF 3 4 d_raw_off
theorem sc_raw_off : FnScope (["form", "way", "x", "gap"] : List Str) (["form", "way", "x"] : List Str) (defScope s_raw_off) := ⟨rfl, rfl, rfl, by decide +kernel, rfl, by decide +kernel, by decide +kernel⟩
theorem fc_raw_off {Z : Wd} (B : Bi Z.mg) (hT : Z.T.lm = none) (h_NEAR : ∃ t, Z.mg "NEAR" = some (.str c_NEAR t)) (h_raw_gap : FC Z 3 "raw_gap" F_raw_gap) (h_raw_times : FC Z 3 "raw_times" F_raw_times) (D : DefOk Z "raw_off" s_raw_off) : FC Z 4 "raw_off" F_raw_off := by
  have Sc := sc_raw_off
  exact D.fc Sc (fun _ _ _ _ _ _ us hl => match us, hl with | [_, _, _], _ => rfl) fun f cdv A outer s H E C => by exact (css_cons (cs_set (i := 3) Sc.nd rfl (Or.inl rfl) (ce_call h_raw_gap C (by decide) rfl (ca_cons (ce_v 0) (ca_cons (ce_v 2) ca_nil)))) (css_one (cs_ret (ce_if (ct_cmp (op_eqD (u64 C.u)) sn_eq (ce_v 1) (ce_gS h_NEAR rfl) rfl) (ce_call h_raw_times C (by decide) rfl (ca_cons (ce_v 3) (ca_cons (ce_tup (ca_cons ce_int (ca_cons ce_int ca_nil))) ca_nil))) (ce_v 3)))))
/-! off_for -/
abbrev s_off_for : Stmt := top 61
def d_off_for : EnP → Sto → SR := dSeq (dExpr (dCB F_check_format (dCons (dV 0) (dNil)))) (dSeq (dExpr (dCB F_check_way (dCons (dV 1) (dNil)))) (dSeq (dExpr (dCB F_check_fraction (dCons (dV 2) (dNil)))) (dRet (dCB F_raw_off (dCons (dV 0) (dCons (dV 1) (dCons (dV 2) (dNil))))))))
def F_off_for : List PV → Sto → Res PV := runF 3 3 d_off_for
theorem sc_off_for : FnScope (["form", "way", "x"] : List Str) (["form", "way", "x"] : List Str) (defScope s_off_for) := ⟨rfl, rfl, rfl, by decide +kernel, rfl, by decide +kernel, by decide +kernel⟩
theorem fc_off_for {Z : Wd} (B : Bi Z.mg) (hT : Z.T.lm = none) (h_check_format : FC Z 4 "check_format" F_check_format) (h_check_way : FC Z 1 "check_way" F_check_way) (h_check_fraction : FC Z 3 "check_fraction" F_check_fraction) (h_raw_off : FC Z 4 "raw_off" F_raw_off) (D : DefOk Z "off_for" s_off_for) : FC Z 5 "off_for" F_off_for := by
  have Sc := sc_off_for
  exact D.fc Sc (fun _ _ _ _ _ _ us hl => match us, hl with | [_, _, _], _ => rfl) fun f cdv A outer s H E C => by exact (css_cons (cs_expr (ce_call h_check_format C (by decide) rfl (ca_cons (ce_v 0) ca_nil))) (css_cons (cs_expr (ce_call h_check_way C (by decide) rfl (ca_cons (ce_v 1) ca_nil))) (css_cons (cs_expr (ce_call h_check_fraction C (by decide) rfl (ca_cons (ce_v 2) ca_nil))) (css_one (cs_ret (ce_call h_raw_off C (by decide) rfl (ca_cons (ce_v 0) (ca_cons (ce_v 1) (ca_cons (ce_v 2) ca_nil)))))))))
/-! numbers_many -/
abbrev s_numbers_many : Stmt := top 62
def d_numbers_many : EnP → Sto → SR := dSeq (dExpr (dCB F_check_format (dCons (dV 0) (dNil)))) (dSeq (dAsg (dV 0) (gTp 4 (gsCons (gNm 1) (gsCons (gNm 2) (gsCons (gNm 3) (gsCons (gNm 4) (gsNil))))))) (dSeq (dIfS (dB (dBin (fCmpI iGt) (dBin (fMul false) (dV 2) (dV 1)) (dC (.int c_MOST_DIGITS)))) (dRaiseF ("TooMany" : Str) ("most" : Str) (dC (.int c_MOST_COUNTED))) (dPass)) (dSeq (dPar 5 6 (dCons (dBin fIx (dCB F_power (dCons (dV 1) (dCons (dBin fSub (dV 2) (dC (.int 1))) (dNil)))) (dC (.int 0))) (dCons (dBin fIx (dCB F_power (dCons (dV 1) (dCons (dV 2) (dNil)))) (dC (.int 0))) (dNil)))) (dRet (dBin (fAdd false) (dBin (fAdd false) (dC (.int 1)) (dBin (fMul false) (dC (.int 2)) (dBin fSub (dV 6) (dC (.int 1))))) (dBin (fMul false) (dBin (fMul false) (dC (.int 2)) (dBin fSub (dV 4) (dV 3))) (dBin fSub (dV 6) (dV 5))))))))
def F_numbers_many : List PV → Sto → Res PV := runF 1 7 d_numbers_many
theorem sc_numbers_many : FnScope (["form", "base", "figures", "low", "high", "first", "whole"] : List Str) (["form"] : List Str) (defScope s_numbers_many) := ⟨rfl, rfl, rfl, by decide +kernel, rfl, by decide +kernel, by decide +kernel⟩
theorem fc_numbers_many {Z : Wd} (B : Bi Z.mg) (hT : Z.T.lm = none) (h_MOST_DIGITS : ∃ t, Z.mg "MOST_DIGITS" = some (.int c_MOST_DIGITS t)) (h_MOST_COUNTED : ∃ t, Z.mg "MOST_COUNTED" = some (.int c_MOST_COUNTED t)) (e_TooMany : EF1 Z.K Z.mg "TooMany" "most") (h_check_format : FC Z 4 "check_format" F_check_format) (h_power : FC Z 1 "power" F_power) (D : DefOk Z "numbers_many" s_numbers_many) : FC Z 5 "numbers_many" F_numbers_many := by
  have Sc := sc_numbers_many
  exact D.fc Sc (fun _ _ _ _ _ _ us hl => match us, hl with | [_], _ => rfl) fun f cdv A outer s H E C => by exact (css_cons (cs_expr (ce_call h_check_format C (by decide) rfl (ca_cons (ce_v 0) ca_nil))) (css_cons (cs_asg (ce_v 0) (cg_tup C.calm (cgs_cons (fun _ _ _ _ _ h => h) (cg_name (i := 1) Sc.nd rfl (Or.inl rfl)) (cgs_cons (fun _ _ _ _ _ h => h) (cg_name (i := 2) Sc.nd rfl (Or.inl rfl)) (cgs_cons (fun _ _ _ _ _ h => h) (cg_name (i := 3) Sc.nd rfl (Or.inl rfl)) (cgs_cons (fun _ _ _ _ _ h => h) (cg_name (i := 4) Sc.nd rfl (Or.inl rfl)) cgs_nil)))))) (css_cons (cs_if (ct_cmp op_gt (sn_cmpI iGt) (ce_bin op_mulM (sn_mul false (fun h => nomatch h)) (ce_v 2) (ce_v 1)) (ce_gi h_MOST_DIGITS rfl) rfl) (css_one (cs_raiseF e_TooMany C (by decide) rfl (ca_cons (ce_gi h_MOST_COUNTED rfl) ca_nil))) css_nil) (css_cons (cs_par (i := 5) (j := 6) C.calm Sc.nd rfl rfl (by decide) rfl rfl (ca_cons (ce_ix (ce_call h_power C (by decide) rfl (ca_cons (ce_v 1) (ca_cons (ce_bin op_sub sn_sub (ce_v 2) ce_int) ca_nil))) ce_int (fun _ _ => rfl)) (ca_cons (ce_ix (ce_call h_power C (by decide) rfl (ca_cons (ce_v 1) (ca_cons (ce_v 2) ca_nil))) ce_int (fun _ _ => rfl)) ca_nil)) rfl) (css_one (cs_ret (ce_bin op_addM (sn_add false (fun h => nomatch h)) (ce_bin op_addM (sn_add false (fun h => nomatch h)) ce_int (ce_bin op_mulM (sn_mul false (fun h => nomatch h)) ce_int (ce_bin op_sub sn_sub (ce_v 6) ce_int))) (ce_bin op_mulM (sn_mul false (fun h => nomatch h)) (ce_bin op_mulM (sn_mul false (fun h => nomatch h)) ce_int (ce_bin op_sub sn_sub (ce_v 4) (ce_v 3))) (ce_bin op_sub sn_sub (ce_v 6) (ce_v 5))))))))))
/-! numbers_from -/
abbrev s_numbers_from : Stmt := top 63
def d_numbers_from : EnP → Sto → SR := dSeq (dExpr (dCB F_check_format (dCons (dV 0) (dNil)))) (dSeq (dExpr (dCB F_check_two (dCons (dV 1) (dCons (dV 2) (dNil))))) (dSeq (dIfS (bNot (dTru (dCB F_raw_at_most (dCons (dV 1) (dCons (dV 2) (dNil)))))) (dRaise ("NoStretch" : Str)) (dPass)) (dSeq (dSet 3 (dCB F_raw_most (dCons (dV 0) (dNil)))) (dSeq (dIfS (bOr (bAnd (dTru (dCB F_raw_at_most (dCons (dV 3) (dCons (dV 1) (dNil))))) (dB (dBin (fEq true) (dV 3) (dV 1)))) (bAnd (dTru (dCB F_raw_at_most (dCons (dV 2) (dCons (dTup (dCons (dUn fNeg (dBin fIx (dV 3) (dC (.int 0)))) (dCons (dBin fIx (dV 3) (dC (.int 1))) (dNil)))) (dNil))))) (dB (dBin (fEq true) (dV 2) (dTup (dCons (dUn fNeg (dBin fIx (dV 3) (dC (.int 0)))) (dCons (dBin fIx (dV 3) (dC (.int 1))) (dNil)))))))) (dRet (dTup (dNil))) (dPass)) (dSeq (dSet 4 (dIf (dTru (dCB F_raw_at_most (dCons (dTup (dCons (dUn fNeg (dBin fIx (dV 3) (dC (.int 0)))) (dCons (dBin fIx (dV 3) (dC (.int 1))) (dNil)))) (dCons (dV 1) (dNil))))) (dCB F_raw_rounded (dCons (dV 0) (dCons (dC (.str c_UP)) (dCons (dV 1) (dNil))))) (dTup (dCons (dUn fNeg (dBin fIx (dV 3) (dC (.int 0)))) (dCons (dBin fIx (dV 3) (dC (.int 1))) (dNil)))))) (dSeq (dSet 5 (dLst true (dNil))) (dSeq (whileP (bAnd (dB (dBin (fIsN true) (dV 4) (dC .non))) (dTru (dCB F_raw_at_most (dCons (dV 4) (dCons (dV 2) (dNil)))))) (dSeq (dExpr (dApp (dV 5) (dCons (dV 4) (dNil)))) (dSeq (dIfS (dB (dBin (fCmpI iGt) (dCB fLen (dCons (dV 5) (dNil))) (dC (.int c_MOST_LISTED)))) (dRaiseF ("TooMany" : Str) ("most" : Str) (dC (.int c_MOST_LISTED))) (dPass)) (dSet 4 (dCB F_beside (dCons (dV 0) (dCons (dV 4) (dCons (dC (.str c_UP)) (dNil)))))))) fuel) (dRet (dCB fTuple (dCons (dV 5) (dNil)))))))))))
def F_numbers_from : List PV → Sto → Res PV := runF 3 6 d_numbers_from
theorem sc_numbers_from : FnScope (["form", "x", "y", "most", "here", "found"] : List Str) (["form", "x", "y"] : List Str) (defScope s_numbers_from) := ⟨rfl, rfl, rfl, by decide +kernel, rfl, by decide +kernel, by decide +kernel⟩
theorem fc_numbers_from {Z : Wd} (B : Bi Z.mg) (hT : Z.T.lm = none) (h_UP : ∃ t, Z.mg "UP" = some (.str c_UP t)) (h_MOST_LISTED : ∃ t, Z.mg "MOST_LISTED" = some (.int c_MOST_LISTED t)) (e_NoStretch : EC Z.K Z.mg "NoStretch") (e_TooMany : EF1 Z.K Z.mg "TooMany" "most") (h_check_format : FC Z 4 "check_format" F_check_format) (h_check_two : FC Z 4 "check_two" F_check_two) (h_raw_at_most : FC Z 1 "raw_at_most" F_raw_at_most) (h_raw_most : FC Z 4 "raw_most" F_raw_most) (h_raw_rounded : FC Z 5 "raw_rounded" F_raw_rounded) (h_beside : FC Z 6 "beside" F_beside) (D : DefOk Z "numbers_from" s_numbers_from) : FC Z 7 "numbers_from" F_numbers_from := by
  have Sc := sc_numbers_from
  exact D.fc Sc (fun _ _ _ _ _ _ us hl => match us, hl with | [_, _, _], _ => rfl) fun f cdv A outer s H E C => by exact (css_cons (cs_expr (ce_call h_check_format C (by decide) rfl (ca_cons (ce_v 0) ca_nil))) (css_cons (cs_expr (ce_call h_check_two C (by decide) rfl (ca_cons (ce_v 1) (ca_cons (ce_v 2) ca_nil)))) (css_cons (cs_if (ct_not (ct_tru (ce_call h_raw_at_most C (by decide) rfl (ca_cons (ce_v 1) (ca_cons (ce_v 2) ca_nil))))) (css_one (cs_raise0 e_NoStretch C.calm C.tk rfl)) css_nil) (css_cons (cs_set (i := 3) Sc.nd rfl (Or.inl rfl) (ce_call h_raw_most C (by decide) rfl (ca_cons (ce_v 0) ca_nil))) (css_cons (cs_if (ct_w (cw_or (ct_w (cw_and (ct_tru (ce_call h_raw_at_most C (by decide) rfl (ca_cons (ce_v 3) (ca_cons (ce_v 1) ca_nil)))) (cw_and1 (ct_cmp (op_neD (u64 C.u)) sn_ne (ce_v 3) (ce_v 1) rfl)))) (cw_or1 (ct_w (cw_and (ct_tru (ce_call h_raw_at_most C (by decide) rfl (ca_cons (ce_v 2) (ca_cons (ce_tup (ca_cons (ce_un un_neg sn_neg (ce_ix (ce_v 3) ce_int (fun _ _ => rfl))) (ca_cons (ce_ix (ce_v 3) ce_int (fun _ _ => rfl)) ca_nil))) ca_nil)))) (cw_and1 (ct_cmp (op_neD (u64 C.u)) sn_ne (ce_v 2) (ce_tup (ca_cons (ce_un un_neg sn_neg (ce_ix (ce_v 3) ce_int (fun _ _ => rfl))) (ca_cons (ce_ix (ce_v 3) ce_int (fun _ _ => rfl)) ca_nil))) rfl))))))) (css_one (cs_ret (ce_tup ca_nil))) css_nil) (css_cons (cs_set (i := 4) Sc.nd rfl (Or.inl rfl) (ce_if (ct_tru (ce_call h_raw_at_most C (by decide) rfl (ca_cons (ce_tup (ca_cons (ce_un un_neg sn_neg (ce_ix (ce_v 3) ce_int (fun _ _ => rfl))) (ca_cons (ce_ix (ce_v 3) ce_int (fun _ _ => rfl)) ca_nil))) (ca_cons (ce_v 1) ca_nil)))) (ce_call h_raw_rounded C (by decide) rfl (ca_cons (ce_v 0) (ca_cons (ce_gS h_UP rfl) (ca_cons (ce_v 1) ca_nil)))) (ce_tup (ca_cons (ce_un un_neg sn_neg (ce_ix (ce_v 3) ce_int (fun _ _ => rfl))) (ca_cons (ce_ix (ce_v 3) ce_int (fun _ _ => rfl)) ca_nil))))) (css_cons (cs_set (i := 5) Sc.nd rfl (Or.inl rfl) (ce_lst true (fun _ => gm_bare C.room.hd hT) ca_nil)) (css_cons (cs_while fuel C.po (ct_w (cw_and (ct_cmp op_notN sn_notN (ce_v 4) ce_non rfl) (cw_and1 (ct_tru (ce_call h_raw_at_most C (by decide) rfl (ca_cons (ce_v 4) (ca_cons (ce_v 2) ca_nil))))))) (css_cons (cs_expr (ce_app (gm_bare C.room.hd hT) (ce_v 5) (ca_cons (ce_v 4) ca_nil))) (css_cons (cs_if (ct_cmp op_gt (sn_cmpI iGt) (ce_callB (x := ("len" : Str)) call_len sl_len rfl B.b_len (by decide +kernel) (ca_cons (ce_v 5) ca_nil)) (ce_gi h_MOST_LISTED rfl) rfl) (css_one (cs_raiseF e_TooMany C (by decide) rfl (ca_cons (ce_gi h_MOST_LISTED rfl) ca_nil))) css_nil) (css_one (cs_set (i := 4) Sc.nd rfl (Or.inl rfl) (ce_call h_beside C (by decide) rfl (ca_cons (ce_v 0) (ca_cons (ce_v 4) (ca_cons (ce_gS h_UP rfl) ca_nil))))))))) (css_one (cs_ret (ce_callTy call_tuple_of sl_tuple rfl B.b_tuple PyProof.Rows.boot_tuple (ca_cons (ce_v 5) ca_nil))))))))))))
/-! raw_hold_of -/
abbrev s_raw_hold_of : Stmt := top 65
def d_raw_hold_of : EnP → Sto → SR := dSeq (dSet 3 (dCB F_raw_rounded (dCons (dV 0) (dCons (dV 1) (dCons (dV 2) (dNil)))))) (dRet (dIf (dB (dBin (fIsN false) (dV 3) (dC .non))) (dC .non) (dTup (dCons (dV 2) (dCons (dV 2) (dCons (dCB F_raw_size (dCons (dCB F_raw_less (dCons (dV 3) (dCons (dV 2) (dNil)))) (dNil))) (dNil)))))))
def F_raw_hold_of : List PV → Sto → Res PV := runF 3 4 d_raw_hold_of
theorem sc_raw_hold_of : FnScope (["form", "way", "x", "near"] : List Str) (["form", "way", "x"] : List Str) (defScope s_raw_hold_of) := ⟨rfl, rfl, rfl, by decide +kernel, rfl, by decide +kernel, by decide +kernel⟩
theorem fc_raw_hold_of {Z : Wd} (B : Bi Z.mg) (hT : Z.T.lm = none) (h_raw_rounded : FC Z 5 "raw_rounded" F_raw_rounded) (h_raw_size : FC Z 1 "raw_size" F_raw_size) (h_raw_less : FC Z 3 "raw_less" F_raw_less) (D : DefOk Z "raw_hold_of" s_raw_hold_of) : FC Z 6 "raw_hold_of" F_raw_hold_of := by
  have Sc := sc_raw_hold_of
  exact D.fc Sc (fun _ _ _ _ _ _ us hl => match us, hl with | [_, _, _], _ => rfl) fun f cdv A outer s H E C => by exact (css_cons (cs_set (i := 3) Sc.nd rfl (Or.inl rfl) (ce_call h_raw_rounded C (by decide) rfl (ca_cons (ce_v 0) (ca_cons (ce_v 1) (ca_cons (ce_v 2) ca_nil))))) (css_one (cs_ret (ce_if (ct_cmp op_isN sn_isN (ce_v 3) ce_non rfl) ce_non (ce_tup (ca_cons (ce_v 2) (ca_cons (ce_v 2) (ca_cons (ce_call h_raw_size C (by decide) rfl (ca_cons (ce_call h_raw_less C (by decide) rfl (ca_cons (ce_v 3) (ca_cons (ce_v 2) ca_nil))) ca_nil)) ca_nil))))))))
/-! hold_of -/
abbrev s_hold_of : Stmt := top 66
def d_hold_of : EnP → Sto → SR := dSeq (dExpr (dCB F_check_format (dCons (dV 0) (dNil)))) (dSeq (dExpr (dCB F_check_way (dCons (dV 1) (dNil)))) (dSeq (dExpr (dCB F_check_fraction (dCons (dV 2) (dNil)))) (dRet (dCB F_raw_hold_of (dCons (dV 0) (dCons (dV 1) (dCons (dV 2) (dNil))))))))
def F_hold_of : List PV → Sto → Res PV := runF 3 3 d_hold_of
theorem sc_hold_of : FnScope (["form", "way", "x"] : List Str) (["form", "way", "x"] : List Str) (defScope s_hold_of) := ⟨rfl, rfl, rfl, by decide +kernel, rfl, by decide +kernel, by decide +kernel⟩
theorem fc_hold_of {Z : Wd} (B : Bi Z.mg) (hT : Z.T.lm = none) (h_check_format : FC Z 4 "check_format" F_check_format) (h_check_way : FC Z 1 "check_way" F_check_way) (h_check_fraction : FC Z 3 "check_fraction" F_check_fraction) (h_raw_hold_of : FC Z 6 "raw_hold_of" F_raw_hold_of) (D : DefOk Z "hold_of" s_hold_of) : FC Z 7 "hold_of" F_hold_of := by
  have Sc := sc_hold_of
  exact D.fc Sc (fun _ _ _ _ _ _ us hl => match us, hl with | [_, _, _], _ => rfl) fun f cdv A outer s H E C => by exact (css_cons (cs_expr (ce_call h_check_format C (by decide) rfl (ca_cons (ce_v 0) ca_nil))) (css_cons (cs_expr (ce_call h_check_way C (by decide) rfl (ca_cons (ce_v 1) ca_nil))) (css_cons (cs_expr (ce_call h_check_fraction C (by decide) rfl (ca_cons (ce_v 2) ca_nil))) (css_one (cs_ret (ce_call h_raw_hold_of C (by decide) rfl (ca_cons (ce_v 0) (ca_cons (ce_v 1) (ca_cons (ce_v 2) ca_nil)))))))))
/-! _law_hand -/
abbrev s_law_hand_L : Stmt := top 68
def d_law_hand_L : EnP → Sto → SR := dSeq (dSet 1 (dLc false (iSeq (dSl false (dV 0) (dNoPart) (dPart (dC (.int 63))))) (cNm 2) (dYes) (dBin fMod (dCB fInt (dCons (dCB fAbs (dCons (dCB fInt (dCons (dV 2) (dNil))) (dNil))) (dNil))) (dBin fPow (dC (.int 10)) (dC (.int 36)))) [2])) (dRet (dLst true (dCons (dV 1) (dCons (dC (.int 0)) (dCons (dC (.int 0)) (dCons (dBin (fAdd false) (dC (.int 641)) (dBin (fMul false) (dC (.int 499)) (dCB fLen (dCons (dV 1) (dNil))))) (dCons (dC (.int 0)) (dNil))))))))
def F_law_hand_L : List PV → Sto → Res PV := runF 1 3 d_law_hand_L
theorem sc_law_hand_L : FnScope (["script", "cells", "cell_one"] : List Str) (["script"] : List Str) (defScope s_law_hand_L) := ⟨rfl, rfl, rfl, by decide +kernel, rfl, by decide +kernel, by decide +kernel⟩
theorem fc_law_hand_L {Z : Wd} (B : Bi Z.mg) (hT : Z.T.lm = none) (D : DefOk Z "_law_hand" s_law_hand_L) : FC Z 1 "_law_hand" F_law_hand_L := by
  have Sc := sc_law_hand_L
  exact D.fc Sc (fun _ _ _ _ _ _ us hl => match us, hl with | [_], _ => rfl) fun f cdv A outer s H E C => by exact (css_cons (cs_lcC false (fun h => nomatch h) C Sc.nd rfl rfl (sw_true rfl rfl rfl rfl) (ci_seq (ce_sl false (fun h => nomatch h) (ce_v 0) co_none (co_some ce_int))) (show BlkOk (["script", "cells", "cell_one"] : List Str) (defScope s_law_hand_L) _ [(("cell_one" : Str), 2)] from blkOk_by (by decide +kernel)) (fun _ _ _ _ _ C => (pg_name (i := 2) Sc.nd rfl (Or.inl rfl) (Or.inr rfl))) (tgc_name (by decide)) (fun _ _ _ _ _ _ => pts_yes) (fun _ _ _ _ _ C => (ce_bin op_modN sn_mod (ce_callTy call_int1 sl_int rfl B.b_int PyProof.Rows.boot_int (ca_cons (ce_callB (x := ("abs" : Str)) call_abs sl_abs rfl B.b_abs PyProof.Rows.boot_abs (ca_cons (ce_callTy call_int1 sl_int rfl B.b_int PyProof.Rows.boot_int (ca_cons (ce_v 2) ca_nil)) ca_nil)) ca_nil)) (ce_bin op_pow sn_pow ce_int ce_int)))) (css_one (cs_ret (ce_lst true (fun _ => gm_bare C.room.hd hT) (ca_cons (ce_v 1) (ca_cons ce_int (ca_cons ce_int (ca_cons (ce_bin op_addM (sn_add false (fun h => nomatch h)) ce_int (ce_bin op_mulM (sn_mul false (fun h => nomatch h)) ce_int (ce_callB (x := ("len" : Str)) call_len sl_len rfl B.b_len (by decide +kernel) (ca_cons (ce_v 1) ca_nil)))) (ca_cons ce_int ca_nil)))))))))
/-! _law_draw -/
abbrev s_law_draw_L : Stmt := top 69
def d_law_draw_L : EnP → Sto → SR := dSeq (dIfS (bAnd (dB (dBin (fEq false) (dBin fIx (dV 0) (dC (.int 2))) (dC (.int 0)))) (dB (dBin (fCmpI iLt) (dBin fIx (dV 0) (dC (.int 1))) (dCB fLen (dCons (dBin fIx (dV 0) (dC (.int 0))) (dNil)))))) (dSeq (dSet 2 (dBin fIx (dBin fIx (dV 0) (dC (.int 0))) (dBin fIx (dV 0) (dC (.int 1))))) (dSeq (dAsg (dBin (fAdd false) (dBin fIx (dV 0) (dC (.int 1))) (dC (.int 1))) (gIx (dV 0) (dC (.int 1)))) (dSeq (dAsg (dBin fMod (dCB fInt (dCons (dBin (fAdd false) (dBin (fAdd false) (dBin (fMul false) (dBin fIx (dV 0) (dC (.int 3))) (dC (.int 69621))) (dBin (fMul false) (dV 2) (dC (.int 48271)))) (dC (.int 17))) (dNil))) (dC (.int 2147483629))) (gIx (dV 0) (dC (.int 3)))) (dIfS (dB (dBin (fCmpI iGe) (dV 2) (dBin fPow (dC (.int 10)) (dC (.int 18))))) (dAsg (dV 2) (gIx (dV 0) (dC (.int 2)))) (dPass))))) (dPass)) (dSeq (dIfS (dB (dBin (fCmpI iGt) (dBin fIx (dV 0) (dC (.int 2))) (dC (.int 0)))) (dSeq (dSet 3 (dBin fMod (dCB fInt (dCons (dBin fIx (dV 0) (dC (.int 2))) (dNil))) (dV 1))) (dSeq (dAsg (dBin fDiv (dBin fIx (dV 0) (dC (.int 2))) (dV 1)) (gIx (dV 0) (dC (.int 2)))) (dRet (dV 3)))) (dPass)) (dSeq (dAsg (dBin (fAdd false) (dBin fIx (dV 0) (dC (.int 4))) (dC (.int 1))) (gIx (dV 0) (dC (.int 4)))) (dSeq (dSet 4 (dBin fMod (dCB fInt (dCons (dBin (fMul false) (dCB fInt (dCons (dBin (fAdd false) (dBin fIx (dV 0) (dC (.int 3))) (dBin (fMul false) (dC (.int 7919)) (dBin fIx (dV 0) (dC (.int 4))))) (dNil))) (dC (.int 40692))) (dNil))) (dC (.int 2147483647)))) (dSeq (dSet 4 (dBin fMod (dCB fInt (dCons (dBin (fMul false) (dV 4) (dBin (fAdd false) (dBin fDiv (dV 4) (dC (.int 1009))) (dC (.int 69621)))) (dNil))) (dC (.int 2147483647)))) (dSeq (dSet 4 (dBin fMod (dCB fInt (dCons (dBin (fMul false) (dV 4) (dBin (fAdd false) (dBin fDiv (dV 4) (dC (.int 2003))) (dC (.int 40014)))) (dNil))) (dC (.int 2147483563)))) (dRet (dBin fMod (dCB fInt (dCons (dBin fDiv (dV 4) (dC (.int 16))) (dNil))) (dV 1))))))))
def F_law_draw_L : List PV → Sto → Res PV := runF 2 5 d_law_draw_L
theorem sc_law_draw_L : FnScope (["hand", "many", "cell_one", "digit", "number"] : List Str) (["hand", "many"] : List Str) (defScope s_law_draw_L) := ⟨rfl, rfl, rfl, by decide +kernel, rfl, by decide +kernel, by decide +kernel⟩
theorem fc_law_draw_L {Z : Wd} (B : Bi Z.mg) (hT : Z.T.lm = none) (D : DefOk Z "_law_draw" s_law_draw_L) : FC Z 1 "_law_draw" F_law_draw_L := by
  have Sc := sc_law_draw_L
  exact D.fc Sc (fun _ _ _ _ _ _ us hl => match us, hl with | [_, _], _ => rfl) fun f cdv A outer s H E C => by exact (css_cons (cs_if (ct_w (cw_and (ct_cmp (op_eqD (u64 C.u)) sn_eq (ce_ix (ce_v 0) ce_int (fun _ _ => rfl)) ce_int rfl) (cw_and1 (ct_cmp op_lt (sn_cmpI iLt) (ce_ix (ce_v 0) ce_int (fun _ _ => rfl)) (ce_callB (x := ("len" : Str)) call_len sl_len rfl B.b_len (by decide +kernel) (ca_cons (ce_ix (ce_v 0) ce_int (fun _ _ => rfl)) ca_nil)) rfl)))) (css_cons (cs_set (i := 2) Sc.nd rfl (Or.inl rfl) (ce_ix (ce_ix (ce_v 0) ce_int (fun _ _ => rfl)) (ce_ix (ce_v 0) ce_int (fun _ _ => rfl)) (fun _ _ => rfl))) (css_cons (cs_asg (ce_bin op_addM (sn_add false (fun h => nomatch h)) (ce_ix (ce_v 0) ce_int (fun _ _ => rfl)) ce_int) (cg_ix (gm_bare C.room.hd hT) (ce_v 0) ce_int)) (css_cons (cs_asg (ce_bin op_modN sn_mod (ce_callTy call_int1 sl_int rfl B.b_int PyProof.Rows.boot_int (ca_cons (ce_bin op_addM (sn_add false (fun h => nomatch h)) (ce_bin op_addM (sn_add false (fun h => nomatch h)) (ce_bin op_mulM (sn_mul false (fun h => nomatch h)) (ce_ix (ce_v 0) ce_int (fun _ _ => rfl)) ce_int) (ce_bin op_mulM (sn_mul false (fun h => nomatch h)) (ce_v 2) ce_int)) ce_int) ca_nil)) ce_int) (cg_ix (gm_bare C.room.hd hT) (ce_v 0) ce_int)) (css_one (cs_if (ct_cmp op_ge (sn_cmpI iGe) (ce_v 2) (ce_bin op_pow sn_pow ce_int ce_int) rfl) (css_one (cs_asg (ce_v 2) (cg_ix (gm_bare C.room.hd hT) (ce_v 0) ce_int))) css_nil))))) css_nil) (css_cons (cs_if (ct_cmp op_gt (sn_cmpI iGt) (ce_ix (ce_v 0) ce_int (fun _ _ => rfl)) ce_int rfl) (css_cons (cs_set (i := 3) Sc.nd rfl (Or.inl rfl) (ce_bin op_modN sn_mod (ce_callTy call_int1 sl_int rfl B.b_int PyProof.Rows.boot_int (ca_cons (ce_ix (ce_v 0) ce_int (fun _ _ => rfl)) ca_nil)) (ce_v 1))) (css_cons (cs_asg (ce_bin op_fdivA sn_div (ce_ix (ce_v 0) ce_int (fun _ _ => rfl)) (ce_v 1)) (cg_ix (gm_bare C.room.hd hT) (ce_v 0) ce_int)) (css_one (cs_ret (ce_v 3))))) css_nil) (css_cons (cs_asg (ce_bin op_addM (sn_add false (fun h => nomatch h)) (ce_ix (ce_v 0) ce_int (fun _ _ => rfl)) ce_int) (cg_ix (gm_bare C.room.hd hT) (ce_v 0) ce_int)) (css_cons (cs_set (i := 4) Sc.nd rfl (Or.inl rfl) (ce_bin op_modN sn_mod (ce_callTy call_int1 sl_int rfl B.b_int PyProof.Rows.boot_int (ca_cons (ce_bin op_mulM (sn_mul false (fun h => nomatch h)) (ce_callTy call_int1 sl_int rfl B.b_int PyProof.Rows.boot_int (ca_cons (ce_bin op_addM (sn_add false (fun h => nomatch h)) (ce_ix (ce_v 0) ce_int (fun _ _ => rfl)) (ce_bin op_mulM (sn_mul false (fun h => nomatch h)) ce_int (ce_ix (ce_v 0) ce_int (fun _ _ => rfl)))) ca_nil)) ce_int) ca_nil)) ce_int)) (css_cons (cs_set (i := 4) Sc.nd rfl (Or.inl rfl) (ce_bin op_modN sn_mod (ce_callTy call_int1 sl_int rfl B.b_int PyProof.Rows.boot_int (ca_cons (ce_bin op_mulM (sn_mul false (fun h => nomatch h)) (ce_v 4) (ce_bin op_addM (sn_add false (fun h => nomatch h)) (ce_bin op_fdivA sn_div (ce_v 4) ce_int) ce_int)) ca_nil)) ce_int)) (css_cons (cs_set (i := 4) Sc.nd rfl (Or.inl rfl) (ce_bin op_modN sn_mod (ce_callTy call_int1 sl_int rfl B.b_int PyProof.Rows.boot_int (ca_cons (ce_bin op_mulM (sn_mul false (fun h => nomatch h)) (ce_v 4) (ce_bin op_addM (sn_add false (fun h => nomatch h)) (ce_bin op_fdivA sn_div (ce_v 4) ce_int) ce_int)) ca_nil)) ce_int)) (css_one (cs_ret (ce_bin op_modN sn_mod (ce_callTy call_int1 sl_int rfl B.b_int PyProof.Rows.boot_int (ca_cons (ce_bin op_fdivA sn_div (ce_v 4) ce_int) ca_nil)) (ce_v 1))))))))))
/-! _law_any -/
abbrev s_law_any_L : Stmt := top 70
def d_law_any_L : EnP → Sto → SR := dRet (dBin fIx (dV 1) (dCB F_law_draw_L (dCons (dV 0) (dCons (dCB fLen (dCons (dV 1) (dNil))) (dNil)))))
def F_law_any_L : List PV → Sto → Res PV := runF 2 2 d_law_any_L
theorem sc_law_any_L : FnScope (["hand", "some"] : List Str) (["hand", "some"] : List Str) (defScope s_law_any_L) := ⟨rfl, rfl, rfl, by decide +kernel, rfl, by decide +kernel, by decide +kernel⟩
theorem fc_law_any_L {Z : Wd} (B : Bi Z.mg) (hT : Z.T.lm = none) (h_law_draw_L : FC Z 1 "_law_draw" F_law_draw_L) (D : DefOk Z "_law_any" s_law_any_L) : FC Z 2 "_law_any" F_law_any_L := by
  have Sc := sc_law_any_L
  exact D.fc Sc (fun _ _ _ _ _ _ us hl => match us, hl with | [_, _], _ => rfl) fun f cdv A outer s H E C => by exact (css_one (cs_ret (ce_ix (ce_v 1) (ce_call h_law_draw_L C (by decide) rfl (ca_cons (ce_v 0) (ca_cons (ce_callB (x := ("len" : Str)) call_len sl_len rfl B.b_len (by decide +kernel) (ca_cons (ce_v 1) ca_nil)) ca_nil))) (fun _ _ => rfl))))
/-! _law_low -/
abbrev s_law_low_L : Stmt := top 71
def d_law_low_L : EnP → Sto → SR := dSeq (dPar 2 3 (dCons (dCB fAbs (dCons (dV 0) (dNil))) (dCons (dCB fAbs (dCons (dV 1) (dNil))) (dNil)))) (dSeq (whileP (dB (dBin (fCmpI iGt) (dV 3) (dC (.int 0)))) (dPar 2 3 (dCons (dV 3) (dCons (dBin fMod (dCB fInt (dCons (dV 2) (dNil))) (dV 3)) (dNil)))) fuel) (dSeq (dSet 4 (dIf (dB (dBin (fCmpI iGt) (dV 1) (dC (.int 0)))) (dC (.int 1)) (dUn fNeg (dC (.int 1))))) (dRet (dTup (dCons (dBin fDiv (dBin (fMul false) (dV 4) (dV 0)) (dV 2)) (dCons (dBin fDiv (dBin (fMul false) (dV 4) (dV 1)) (dV 2)) (dNil)))))))
def F_law_low_L : List PV → Sto → Res PV := runF 2 5 d_law_low_L
theorem sc_law_low_L : FnScope (["top", "bottom", "one", "other", "sign"] : List Str) (["top", "bottom"] : List Str) (defScope s_law_low_L) := ⟨rfl, rfl, rfl, by decide +kernel, rfl, by decide +kernel, by decide +kernel⟩
theorem fc_law_low_L {Z : Wd} (B : Bi Z.mg) (hT : Z.T.lm = none) (D : DefOk Z "_law_low" s_law_low_L) : FC Z 1 "_law_low" F_law_low_L := by
  have Sc := sc_law_low_L
  exact D.fc Sc (fun _ _ _ _ _ _ us hl => match us, hl with | [_, _], _ => rfl) fun f cdv A outer s H E C => by exact (css_cons (cs_par (i := 2) (j := 3) C.calm Sc.nd rfl rfl (by decide) rfl rfl (ca_cons (ce_callB (x := ("abs" : Str)) call_abs sl_abs rfl B.b_abs PyProof.Rows.boot_abs (ca_cons (ce_v 0) ca_nil)) (ca_cons (ce_callB (x := ("abs" : Str)) call_abs sl_abs rfl B.b_abs PyProof.Rows.boot_abs (ca_cons (ce_v 1) ca_nil)) ca_nil)) rfl) (css_cons (cs_while fuel C.po (ct_cmp op_gt (sn_cmpI iGt) (ce_v 3) ce_int rfl) (css_one (cs_par (i := 2) (j := 3) C.calm Sc.nd rfl rfl (by decide) rfl rfl (ca_cons (ce_v 3) (ca_cons (ce_bin op_modN sn_mod (ce_callTy call_int1 sl_int rfl B.b_int PyProof.Rows.boot_int (ca_cons (ce_v 2) ca_nil)) (ce_v 3)) ca_nil)) rfl))) (css_cons (cs_set (i := 4) Sc.nd rfl (Or.inl rfl) (ce_if (ct_cmp op_gt (sn_cmpI iGt) (ce_v 1) ce_int rfl) ce_int (ce_un un_neg sn_neg ce_int))) (css_one (cs_ret (ce_tup (ca_cons (ce_bin op_fdivA sn_div (ce_bin op_mulM (sn_mul false (fun h => nomatch h)) (ce_v 4) (ce_v 0)) (ce_v 2)) (ca_cons (ce_bin op_fdivA sn_div (ce_bin op_mulM (sn_mul false (fun h => nomatch h)) (ce_v 4) (ce_v 1)) (ce_v 2)) ca_nil))))))))
/-! _law_plus -/
abbrev s_law_plus_L : Stmt := top 72
def d_law_plus_L : EnP → Sto → SR := dRet (dCB F_law_low_L (dCons (dBin (fAdd false) (dBin (fMul false) (dBin fIx (dV 0) (dC (.int 0))) (dBin fIx (dV 1) (dC (.int 1)))) (dBin (fMul false) (dBin fIx (dV 1) (dC (.int 0))) (dBin fIx (dV 0) (dC (.int 1))))) (dCons (dBin (fMul false) (dBin fIx (dV 0) (dC (.int 1))) (dBin fIx (dV 1) (dC (.int 1)))) (dNil))))
def F_law_plus_L : List PV → Sto → Res PV := runF 2 2 d_law_plus_L
theorem sc_law_plus_L : FnScope (["x", "y"] : List Str) (["x", "y"] : List Str) (defScope s_law_plus_L) := ⟨rfl, rfl, rfl, by decide +kernel, rfl, by decide +kernel, by decide +kernel⟩
theorem fc_law_plus_L {Z : Wd} (B : Bi Z.mg) (hT : Z.T.lm = none) (h_law_low_L : FC Z 1 "_law_low" F_law_low_L) (D : DefOk Z "_law_plus" s_law_plus_L) : FC Z 2 "_law_plus" F_law_plus_L := by
  have Sc := sc_law_plus_L
  exact D.fc Sc (fun _ _ _ _ _ _ us hl => match us, hl with | [_, _], _ => rfl) fun f cdv A outer s H E C => by exact (css_one (cs_ret (ce_call h_law_low_L C (by decide) rfl (ca_cons (ce_bin op_addM (sn_add false (fun h => nomatch h)) (ce_bin op_mulM (sn_mul false (fun h => nomatch h)) (ce_ix (ce_v 0) ce_int (fun _ _ => rfl)) (ce_ix (ce_v 1) ce_int (fun _ _ => rfl))) (ce_bin op_mulM (sn_mul false (fun h => nomatch h)) (ce_ix (ce_v 1) ce_int (fun _ _ => rfl)) (ce_ix (ce_v 0) ce_int (fun _ _ => rfl)))) (ca_cons (ce_bin op_mulM (sn_mul false (fun h => nomatch h)) (ce_ix (ce_v 0) ce_int (fun _ _ => rfl)) (ce_ix (ce_v 1) ce_int (fun _ _ => rfl))) ca_nil)))))
/-! _law_times -/
abbrev s_law_times_L : Stmt := top 73
def d_law_times_L : EnP → Sto → SR := dRet (dCB F_law_low_L (dCons (dBin (fMul false) (dBin fIx (dV 0) (dC (.int 0))) (dBin fIx (dV 1) (dC (.int 0)))) (dCons (dBin (fMul false) (dBin fIx (dV 0) (dC (.int 1))) (dBin fIx (dV 1) (dC (.int 1)))) (dNil))))
def F_law_times_L : List PV → Sto → Res PV := runF 2 2 d_law_times_L
theorem sc_law_times_L : FnScope (["x", "y"] : List Str) (["x", "y"] : List Str) (defScope s_law_times_L) := ⟨rfl, rfl, rfl, by decide +kernel, rfl, by decide +kernel, by decide +kernel⟩
theorem fc_law_times_L {Z : Wd} (B : Bi Z.mg) (hT : Z.T.lm = none) (h_law_low_L : FC Z 1 "_law_low" F_law_low_L) (D : DefOk Z "_law_times" s_law_times_L) : FC Z 2 "_law_times" F_law_times_L := by
  have Sc := sc_law_times_L
  exact D.fc Sc (fun _ _ _ _ _ _ us hl => match us, hl with | [_, _], _ => rfl) fun f cdv A outer s H E C => by exact (css_one (cs_ret (ce_call h_law_low_L C (by decide) rfl (ca_cons (ce_bin op_mulM (sn_mul false (fun h => nomatch h)) (ce_ix (ce_v 0) ce_int (fun _ _ => rfl)) (ce_ix (ce_v 1) ce_int (fun _ _ => rfl))) (ca_cons (ce_bin op_mulM (sn_mul false (fun h => nomatch h)) (ce_ix (ce_v 0) ce_int (fun _ _ => rfl)) (ce_ix (ce_v 1) ce_int (fun _ _ => rfl))) ca_nil)))))
/-! _law_less -/
abbrev s_law_less_L : Stmt := top 74
def d_law_less_L : EnP → Sto → SR := dRet (dCB F_law_plus_L (dCons (dV 0) (dCons (dTup (dCons (dBin fSub (dC (.int 0)) (dBin fIx (dV 1) (dC (.int 0)))) (dCons (dBin fIx (dV 1) (dC (.int 1))) (dNil)))) (dNil))))
def F_law_less_L : List PV → Sto → Res PV := runF 2 2 d_law_less_L
theorem sc_law_less_L : FnScope (["x", "y"] : List Str) (["x", "y"] : List Str) (defScope s_law_less_L) := ⟨rfl, rfl, rfl, by decide +kernel, rfl, by decide +kernel, by decide +kernel⟩
theorem fc_law_less_L {Z : Wd} (B : Bi Z.mg) (hT : Z.T.lm = none) (h_law_plus_L : FC Z 2 "_law_plus" F_law_plus_L) (D : DefOk Z "_law_less" s_law_less_L) : FC Z 3 "_law_less" F_law_less_L := by
  have Sc := sc_law_less_L
  exact D.fc Sc (fun _ _ _ _ _ _ us hl => match us, hl with | [_, _], _ => rfl) fun f cdv A outer s H E C => by exact (css_one (cs_ret (ce_call h_law_plus_L C (by decide) rfl (ca_cons (ce_v 0) (ca_cons (ce_tup (ca_cons (ce_bin op_sub sn_sub ce_int (ce_ix (ce_v 1) ce_int (fun _ _ => rfl))) (ca_cons (ce_ix (ce_v 1) ce_int (fun _ _ => rfl)) ca_nil))) ca_nil)))))
/-! _law_over -/
abbrev s_law_over_L : Stmt := top 75
def d_law_over_L : EnP → Sto → SR := dRet (dCB F_law_low_L (dCons (dBin (fMul false) (dBin fIx (dV 0) (dC (.int 0))) (dBin fIx (dV 1) (dC (.int 1)))) (dCons (dBin (fMul false) (dBin fIx (dV 0) (dC (.int 1))) (dBin fIx (dV 1) (dC (.int 0)))) (dNil))))
def F_law_over_L : List PV → Sto → Res PV := runF 2 2 d_law_over_L
theorem sc_law_over_L : FnScope (["x", "y"] : List Str) (["x", "y"] : List Str) (defScope s_law_over_L) := ⟨rfl, rfl, rfl, by decide +kernel, rfl, by decide +kernel, by decide +kernel⟩
theorem fc_law_over_L {Z : Wd} (B : Bi Z.mg) (hT : Z.T.lm = none) (h_law_low_L : FC Z 1 "_law_low" F_law_low_L) (D : DefOk Z "_law_over" s_law_over_L) : FC Z 2 "_law_over" F_law_over_L := by
  have Sc := sc_law_over_L
  exact D.fc Sc (fun _ _ _ _ _ _ us hl => match us, hl with | [_, _], _ => rfl) fun f cdv A outer s H E C => by exact (css_one (cs_ret (ce_call h_law_low_L C (by decide) rfl (ca_cons (ce_bin op_mulM (sn_mul false (fun h => nomatch h)) (ce_ix (ce_v 0) ce_int (fun _ _ => rfl)) (ce_ix (ce_v 1) ce_int (fun _ _ => rfl))) (ca_cons (ce_bin op_mulM (sn_mul false (fun h => nomatch h)) (ce_ix (ce_v 0) ce_int (fun _ _ => rfl)) (ce_ix (ce_v 1) ce_int (fun _ _ => rfl))) ca_nil)))))
/-! _law_is_most -/
abbrev s_law_is_most_L : Stmt := top 76
def d_law_is_most_L : EnP → Sto → SR := dRet (dBin (fCmpI iLe) (dBin (fMul false) (dBin fIx (dV 0) (dC (.int 0))) (dBin fIx (dV 1) (dC (.int 1)))) (dBin (fMul false) (dBin fIx (dV 1) (dC (.int 0))) (dBin fIx (dV 0) (dC (.int 1)))))
def F_law_is_most_L : List PV → Sto → Res PV := runF 2 2 d_law_is_most_L
theorem sc_law_is_most_L : FnScope (["x", "y"] : List Str) (["x", "y"] : List Str) (defScope s_law_is_most_L) := ⟨rfl, rfl, rfl, by decide +kernel, rfl, by decide +kernel, by decide +kernel⟩
theorem fc_law_is_most_L {Z : Wd} (B : Bi Z.mg) (hT : Z.T.lm = none) (D : DefOk Z "_law_is_most" s_law_is_most_L) : FC Z 1 "_law_is_most" F_law_is_most_L := by
  have Sc := sc_law_is_most_L
  exact D.fc Sc (fun _ _ _ _ _ _ us hl => match us, hl with | [_, _], _ => rfl) fun f cdv A outer s H E C => by exact (css_one (cs_ret (ce_cmp op_le (sn_cmpI iLe) (ce_bin op_mulM (sn_mul false (fun h => nomatch h)) (ce_ix (ce_v 0) ce_int (fun _ _ => rfl)) (ce_ix (ce_v 1) ce_int (fun _ _ => rfl))) (ce_bin op_mulM (sn_mul false (fun h => nomatch h)) (ce_ix (ce_v 1) ce_int (fun _ _ => rfl)) (ce_ix (ce_v 0) ce_int (fun _ _ => rfl))) rfl)))
/-! _law_size -/
abbrev s_law_size_L : Stmt := top 77
def d_law_size_L : EnP → Sto → SR := dRet (dTup (dCons (dCB fAbs (dCons (dBin fIx (dV 0) (dC (.int 0))) (dNil))) (dCons (dBin fIx (dV 0) (dC (.int 1))) (dNil))))
def F_law_size_L : List PV → Sto → Res PV := runF 1 1 d_law_size_L
theorem sc_law_size_L : FnScope (["x"] : List Str) (["x"] : List Str) (defScope s_law_size_L) := ⟨rfl, rfl, rfl, by decide +kernel, rfl, by decide +kernel, by decide +kernel⟩
theorem fc_law_size_L {Z : Wd} (B : Bi Z.mg) (hT : Z.T.lm = none) (D : DefOk Z "_law_size" s_law_size_L) : FC Z 1 "_law_size" F_law_size_L := by
  have Sc := sc_law_size_L
  exact D.fc Sc (fun _ _ _ _ _ _ us hl => match us, hl with | [_], _ => rfl) fun f cdv A outer s H E C => by exact (css_one (cs_ret (ce_tup (ca_cons (ce_callB (x := ("abs" : Str)) call_abs sl_abs rfl B.b_abs PyProof.Rows.boot_abs (ca_cons (ce_ix (ce_v 0) ce_int (fun _ _ => rfl)) ca_nil)) (ca_cons (ce_ix (ce_v 0) ce_int (fun _ _ => rfl)) ca_nil)))))
/-! _law_power -/
abbrev s_law_power_L : Stmt := top 78
def d_law_power_L : EnP → Sto → SR := dSeq (dSet 2 (dC (.int 1))) (dSeq (dFor (iRange (dCons (dCB fAbs (dCons (dV 1) (dNil))) (dNil))) (gNm 3) (dSet 2 (dBin (fMul false) (dV 2) (dV 0)))) (dRet (dIf (dB (dBin (fCmpI iGe) (dV 1) (dC (.int 0)))) (dTup (dCons (dV 2) (dCons (dC (.int 1)) (dNil)))) (dTup (dCons (dC (.int 1)) (dCons (dV 2) (dNil)))))))
def F_law_power_L : List PV → Sto → Res PV := runF 2 4 d_law_power_L
theorem sc_law_power_L : FnScope (["base", "e", "found", "turn"] : List Str) (["base", "e"] : List Str) (defScope s_law_power_L) := ⟨rfl, rfl, rfl, by decide +kernel, rfl, by decide +kernel, by decide +kernel⟩
theorem fc_law_power_L {Z : Wd} (B : Bi Z.mg) (hT : Z.T.lm = none) (D : DefOk Z "_law_power" s_law_power_L) : FC Z 1 "_law_power" F_law_power_L := by
  have Sc := sc_law_power_L
  exact D.fc Sc (fun _ _ _ _ _ _ us hl => match us, hl with | [_, _], _ => rfl) fun f cdv A outer s H E C => by exact (css_cons (cs_set (i := 2) Sc.nd rfl (Or.inl rfl) ce_int) (css_cons (cs_for C.po C.calm (ci_range1 rfl B.b_range (ca_cons (ce_callB (x := ("abs" : Str)) call_abs sl_abs rfl B.b_abs PyProof.Rows.boot_abs (ca_cons (ce_v 1) ca_nil)) ca_nil) rfl len1) (cg_name (i := 3) Sc.nd rfl (Or.inl rfl)) (css_one (cs_set (i := 2) Sc.nd rfl (Or.inl rfl) (ce_bin op_mulM (sn_mul false (fun h => nomatch h)) (ce_v 2) (ce_v 0))))) (css_one (cs_ret (ce_if (ct_cmp op_ge (sn_cmpI iGe) (ce_v 1) ce_int rfl) (ce_tup (ca_cons (ce_v 2) (ca_cons ce_int ca_nil))) (ce_tup (ca_cons ce_int (ca_cons (ce_v 2) ca_nil))))))))
/-! _law_gap -/
abbrev s_law_gap_L : Stmt := top 79
def d_law_gap_L : EnP → Sto → SR := dSeq (dAsg (dV 0) (gTp 4 (gsCons (gNm 2) (gsCons (gNm 3) (gsCons (gNm 4) (gsCons (gNm 5) (gsNil))))))) (dSeq (dSet 6 (dV 4)) (dSeq (dFor (iRange (dCons (dC (.int 80)) (dNil))) (gNm 7) (dIfS (dTru (dCB F_law_is_most_L (dCons (dCB F_law_power_L (dCons (dV 2) (dCons (dBin (fAdd false) (dV 3) (dV 6)) (dNil)))) (dCons (dCB F_law_size_L (dCons (dV 1) (dNil))) (dNil))))) (dSet 6 (dBin (fAdd false) (dV 6) (dC (.int 1)))) (dPass))) (dRet (dCB F_law_power_L (dCons (dV 2) (dCons (dV 6) (dNil)))))))
def F_law_gap_L : List PV → Sto → Res PV := runF 2 8 d_law_gap_L
theorem sc_law_gap_L : FnScope (["form", "x", "base", "figures_one", "low", "high", "e", "turn"] : List Str) (["form", "x"] : List Str) (defScope s_law_gap_L) := ⟨rfl, rfl, rfl, by decide +kernel, rfl, by decide +kernel, by decide +kernel⟩
theorem fc_law_gap_L {Z : Wd} (B : Bi Z.mg) (hT : Z.T.lm = none) (h_law_is_most_L : FC Z 1 "_law_is_most" F_law_is_most_L) (h_law_size_L : FC Z 1 "_law_size" F_law_size_L) (h_law_power_L : FC Z 1 "_law_power" F_law_power_L) (D : DefOk Z "_law_gap" s_law_gap_L) : FC Z 2 "_law_gap" F_law_gap_L := by
  have Sc := sc_law_gap_L
  exact D.fc Sc (fun _ _ _ _ _ _ us hl => match us, hl with | [_, _], _ => rfl) fun f cdv A outer s H E C => by exact (css_cons (cs_asg (ce_v 0) (cg_tup C.calm (cgs_cons (fun _ _ _ _ _ h => h) (cg_name (i := 2) Sc.nd rfl (Or.inl rfl)) (cgs_cons (fun _ _ _ _ _ h => h) (cg_name (i := 3) Sc.nd rfl (Or.inl rfl)) (cgs_cons (fun _ _ _ _ _ h => h) (cg_name (i := 4) Sc.nd rfl (Or.inl rfl)) (cgs_cons (fun _ _ _ _ _ h => h) (cg_name (i := 5) Sc.nd rfl (Or.inl rfl)) cgs_nil)))))) (css_cons (cs_set (i := 6) Sc.nd rfl (Or.inl rfl) (ce_v 4)) (css_cons (cs_for C.po C.calm (ci_range1 rfl B.b_range (ca_cons ce_int ca_nil) rfl len1) (cg_name (i := 7) Sc.nd rfl (Or.inl rfl)) (css_one (cs_if (ct_tru (ce_call h_law_is_most_L C (by decide) rfl (ca_cons (ce_call h_law_power_L C (by decide) rfl (ca_cons (ce_v 2) (ca_cons (ce_bin op_addM (sn_add false (fun h => nomatch h)) (ce_v 3) (ce_v 6)) ca_nil))) (ca_cons (ce_call h_law_size_L C (by decide) rfl (ca_cons (ce_v 1) ca_nil)) ca_nil)))) (css_one (cs_set (i := 6) Sc.nd rfl (Or.inl rfl) (ce_bin op_addM (sn_add false (fun h => nomatch h)) (ce_v 6) ce_int))) css_nil))) (css_one (cs_ret (ce_call h_law_power_L C (by decide) rfl (ca_cons (ce_v 2) (ca_cons (ce_v 6) ca_nil))))))))
/-! _law_said -/
abbrev s_law_said_L : Stmt := top 80
def d_law_said_L (K : Sto → Res PV) : EnP → Sto → SR := dSeq (dTry 1 catT (dExpr (dAct 0 K)) (fun c1 fs => dSeq (dSet 2 (dLst false (dCons (dCB (fIsE (isF fs (isT c1))) (dCons (dV 1) (dCons (dC (.glb ("NoFormat" : Str))) (dNil)))) (dCons (dCB (fIsE (isF fs (isT c1))) (dCons (dV 1) (dCons (dC (.glb ("NoFraction" : Str))) (dNil)))) (dCons (dCB (fIsE (isF fs (isT c1))) (dCons (dV 1) (dCons (dC (.glb ("NoNumberOf" : Str))) (dNil)))) (dNil)))))) (dSeq (dSet 2 (dBin (fAdd false) (dV 2) (dLst false (dCons (dCB (fIsE (isF fs (isT c1))) (dCons (dV 1) (dCons (dC (.glb ("NoStretch" : Str))) (dNil)))) (dCons (dCB (fIsE (isF fs (isT c1))) (dCons (dV 1) (dCons (dC (.glb ("TooMany" : Str))) (dNil)))) (dNil)))))) (dSeq (dIfS (bOr (dB (dBin (fEq true) (dCount (dV 2) (dCons (dC (.bl true)) (dNil))) (dC (.int 1)))) (bNot (dTru (dCB (fIsE (isF fs (isT c1))) (dCons (dV 1) (dCons (dC (.ty "ValueError")) (dNil))))))) (dRet (dC (.str ("odd" : Str)))) (dPass)) (dRet (dBin fIx (dLst false (dCons (dC (.str ("format" : Str))) (dCons (dC (.str ("fraction" : Str))) (dCons (dC (.str ("number of" : Str))) (dCons (dC (.str ("stretch" : Str))) (dCons (dC (.str ("many" : Str))) (dNil))))))) (dIndex (dV 2) (dCons (dC (.bl true)) (dNil))))))))) (dRet (dC (.str ("let" : Str))))
def G_law_said_L : (Sto → Res PV) → Sto → Res PV := lamF 3 d_law_said_L
theorem sc_law_said_L : FnScope (["call", "error", "some"] : List Str) (["call"] : List Str) (defScope s_law_said_L) := ⟨rfl, rfl, rfl, by decide +kernel, rfl, by decide +kernel, by decide +kernel⟩
theorem fl_law_said_L {Z : Wd} (B : Bi Z.mg) (hT : Z.T.lm = none) (e_NoNumberOf : EC Z.K Z.mg "NoNumberOf") (e_NoFraction : EC Z.K Z.mg "NoFraction") (e_NoFormat : EC Z.K Z.mg "NoFormat") (e_TooMany : EF1 Z.K Z.mg "TooMany" "most") (e_NoStretch : EC Z.K Z.mg "NoStretch") {CR : Addr} (hCR : Z.mg "RoundError" = some (.ref CR)) (hcat : ∀ c b, catT c = some b → ∀ C, Z.mg c = some (.ref C) → PySem.W.exmOne Z.K (.ref C) (.ref CR) = some b) (hE : ∀ c C fs (d : Option Addr), Z.mg c = some (.ref C) → (fs = [] → d = none) → (ExcC Z.K C ∧ IsT Z.K Z.mg C (isF fs (isT c))) ∨ ∀ t, isF fs (isT c) t = none) (D : DefOk Z "_law_said" s_law_said_L) : FL Z 0 "_law_said" G_law_said_L := by
  have Sc := sc_law_said_L
  exact D.fl Sc (fun _ _ _ _ _ _ us hl => match us, hl with | [_], _ => rfl) rfl (Or.inl rfl) fun i K f cdv A outer s H E C act => by exact (css_cons (cs_try rfl rfl Sc.nd rfl rfl ⟨rfl, by decide, .inl hCR⟩ C.tk hcat (fun W1 pn xe tk1 po1 => (css_one (cs_expr (act pn xe W1 _ _ tk1)))) (fun c1 fs D a1 oe1 dd pn1 h1 h2 hz hv => (css_cons (cs_set (i := 2) Sc.nd rfl (Or.inl rfl) (ce_lst false (fun h => nomatch h) (ca_cons (ce_isE (hE c1 D fs dd h1 h2) hz hv B.b_isinstance rfl (ca_cons (ce_v 1) (ca_cons (ce_ge e_NoFormat rfl) ca_nil))) (ca_cons (ce_isE (hE c1 D fs dd h1 h2) hz hv B.b_isinstance rfl (ca_cons (ce_v 1) (ca_cons (ce_ge e_NoFraction rfl) ca_nil))) (ca_cons (ce_isE (hE c1 D fs dd h1 h2) hz hv B.b_isinstance rfl (ca_cons (ce_v 1) (ca_cons (ce_ge e_NoNumberOf rfl) ca_nil))) ca_nil))))) (css_cons (cs_set (i := 2) Sc.nd rfl (Or.inl rfl) (ce_bin op_addM (sn_add false (fun h => nomatch h)) (ce_v 2) (ce_lst false (fun h => nomatch h) (ca_cons (ce_isE (hE c1 D fs dd h1 h2) hz hv B.b_isinstance rfl (ca_cons (ce_v 1) (ca_cons (ce_ge e_NoStretch rfl) ca_nil))) (ca_cons (ce_isE (hE c1 D fs dd h1 h2) hz hv B.b_isinstance rfl (ca_cons (ce_v 1) (ca_cons (ce_geF e_TooMany rfl) ca_nil))) ca_nil))))) (css_cons (cs_if (ct_w (cw_or (ct_cmp (op_neD (u64 C.u)) sn_ne (ce_count (u65 C.u) (ce_v 2) (ca_cons ce_bl ca_nil)) ce_int rfl) (cw_or1 (ct_not (ct_tru (ce_isE (hE c1 D fs dd h1 h2) hz hv B.b_isinstance rfl (ca_cons (ce_v 1) (ca_cons (ce_bty rfl B.b_ValueError (by decide +kernel)) ca_nil)))))))) (css_one (cs_ret ce_str)) css_nil) (css_one (cs_ret (ce_ix (ce_lst false (fun h => nomatch h) (ca_cons ce_str (ca_cons ce_str (ca_cons ce_str (ca_cons ce_str (ca_cons ce_str ca_nil)))))) (ce_index (u65 C.u) (ce_v 2) (ca_cons ce_bl ca_nil)) (fun _ _ => rfl))))))))) (css_one (cs_ret ce_str)))
/-! _law_numbers -/
abbrev s_law_numbers_L : Stmt := top 81
def d_law_numbers_L : EnP → Sto → SR := dSeq (dAsg (dV 0) (gTp 4 (gsCons (gNm 1) (gsCons (gNm 2) (gsCons (gNm 3) (gsCons (gNm 4) (gsNil))))))) (dSeq (dSet 5 (dDispT ([(dTup (dCons (dC (.int 0)) (dCons (dC (.int 1)) (dNil))), dC (.bl true))]))) (dSeq (dFor (iRange (dCons (dV 3) (dCons (dBin (fAdd false) (dV 4) (dC (.int 1))) (dNil)))) (gNm 6) (dFor (iRange (dCons (dC (.int 1)) (dCons (dBin fIx (dCB F_law_power_L (dCons (dV 1) (dCons (dV 2) (dNil)))) (dC (.int 0))) (dNil)))) (gNm 7) (dSeq (dSet 8 (dCB F_law_times_L (dCons (dTup (dCons (dV 7) (dCons (dC (.int 1)) (dNil)))) (dCons (dCB F_law_power_L (dCons (dV 1) (dCons (dV 6) (dNil)))) (dNil))))) (dAsg (dTup (dCons (dC (.bl true)) (dCons (dC (.bl true)) (dNil)))) (gTp 2 (gsCons (gIxT (dV 5) (dV 8)) (gsCons (gIxT (dV 5) (dTup (dCons (dBin fSub (dC (.int 0)) (dBin fIx (dV 8) (dC (.int 0)))) (dCons (dBin fIx (dV 8) (dC (.int 1))) (dNil))))) (gsNil)))))))) (dSeq (dSet 9 (dBin fIx (dCB F_law_power_L (dCons (dV 1) (dCons (dCB fAbs (dCons (dV 3) (dNil))) (dNil)))) (dC (.int 0)))) (dRet (dLc false (iSeq (dCB fSorted (dCons (dLcD 5 (dLc false (iDk 5) (cNm 8) (dYes) (dBin fDiv (dBin (fMul false) (dBin fIx (dV 8) (dC (.int 0))) (dV 9)) (dBin fIx (dV 8) (dC (.int 1)))) [8])) (dNil)))) (cNm 10) (dYes) (dCB F_law_low_L (dCons (dV 10) (dCons (dV 9) (dNil)))) [10])))))
def F_law_numbers_L : List PV → Sto → Res PV := runF 1 11 d_law_numbers_L
theorem sc_law_numbers_L : FnScope (["form", "base", "figures_one", "low", "high", "found", "e", "m", "x", "bottom", "top"] : List Str) (["form"] : List Str) (defScope s_law_numbers_L) := ⟨rfl, rfl, rfl, by decide +kernel, rfl, by decide +kernel, by decide +kernel⟩
theorem fc_law_numbers_L {Z : Wd} (B : Bi Z.mg) (hT : Z.T.lm = none) (h_law_power_L : FC Z 1 "_law_power" F_law_power_L) (h_law_times_L : FC Z 2 "_law_times" F_law_times_L) (h_law_low_L : FC Z 1 "_law_low" F_law_low_L) (D : DefOk Z "_law_numbers" s_law_numbers_L) : FC Z 3 "_law_numbers" F_law_numbers_L := by
  have Sc := sc_law_numbers_L
  exact D.fc Sc (fun _ _ _ _ _ _ us hl => match us, hl with | [_], _ => rfl) fun f cdv A outer s H E C => by exact (css_cons (cs_asg (ce_v 0) (cg_tup C.calm (cgs_cons (fun _ _ _ _ _ h => h) (cg_name (i := 1) Sc.nd rfl (Or.inl rfl)) (cgs_cons (fun _ _ _ _ _ h => h) (cg_name (i := 2) Sc.nd rfl (Or.inl rfl)) (cgs_cons (fun _ _ _ _ _ h => h) (cg_name (i := 3) Sc.nd rfl (Or.inl rfl)) (cgs_cons (fun _ _ _ _ _ h => h) (cg_name (i := 4) Sc.nd rfl (Or.inl rfl)) cgs_nil)))))) (css_cons (cs_set (i := 5) Sc.nd rfl (Or.inl rfl) (ce_dispT (ds := [(dTup (dCons (dC (.int 0)) (dCons (dC (.int 1)) (dNil))), dC (.bl true))]) (u65 C.u) (pps_cons (ce_tup (ca_cons ce_int (ca_cons ce_int ca_nil))) ce_bl pps_nil))) (css_cons (cs_for C.po C.calm (ci_range2 rfl B.b_range (ca_cons (ce_v 3) (ca_cons (ce_bin op_addM (sn_add false (fun h => nomatch h)) (ce_v 4) ce_int) ca_nil)) rfl rfl len2) (cg_name (i := 6) Sc.nd rfl (Or.inl rfl)) (css_one (cs_for C.po C.calm (ci_range2 rfl B.b_range (ca_cons ce_int (ca_cons (ce_ix (ce_call h_law_power_L C (by decide) rfl (ca_cons (ce_v 1) (ca_cons (ce_v 2) ca_nil))) ce_int (fun _ _ => rfl)) ca_nil)) rfl rfl len2) (cg_name (i := 7) Sc.nd rfl (Or.inl rfl)) (css_cons (cs_set (i := 8) Sc.nd rfl (Or.inl rfl) (ce_call h_law_times_L C (by decide) rfl (ca_cons (ce_tup (ca_cons (ce_v 7) (ca_cons ce_int ca_nil))) (ca_cons (ce_call h_law_power_L C (by decide) rfl (ca_cons (ce_v 1) (ca_cons (ce_v 6) ca_nil))) ca_nil)))) (css_one (cs_asg (ce_tup (ca_cons ce_bl (ca_cons ce_bl ca_nil))) (cg_tup C.calm (cgs_cons (fun _ _ _ _ _ h => h) (cg_ixT (u65 C.u) (ce_v 5) (ce_v 8)) (cgs_cons (fun _ _ _ _ _ h => h) (cg_ixT (u65 C.u) (ce_v 5) (ce_tup (ca_cons (ce_bin op_sub sn_sub ce_int (ce_ix (ce_v 8) ce_int (fun _ _ => rfl))) (ca_cons (ce_ix (ce_v 8) ce_int (fun _ _ => rfl)) ca_nil)))) cgs_nil))))))))) (css_cons (cs_set (i := 9) Sc.nd rfl (Or.inr rfl) (ce_ix (ce_call h_law_power_L C (by decide) rfl (ca_cons (ce_v 1) (ca_cons (ce_callB (x := ("abs" : Str)) call_abs sl_abs rfl B.b_abs PyProof.Rows.boot_abs (ca_cons (ce_v 3) ca_nil)) ca_nil))) ce_int (fun _ _ => rfl))) (css_one (cs_ret (ce_lcC false (fun h => nomatch h) C Sc.nd (ci_seq (ce_callB (x := ("sorted" : Str)) cr_sortedI sl_sorted rfl B.b_sorted PyProof.Rows.boot_sorted (ca_cons (ce_lcD 5 (ce_lcC false (fun h => nomatch h) C Sc.nd (ci_dk 5) (show BlkOk (["form", "base", "figures_one", "low", "high", "found", "e", "m", "x", "bottom", "top"] : List Str) (defScope s_law_numbers_L) _ [(("x" : Str), 8)] from blkOk_by (by decide +kernel)) (fun _ _ _ _ _ C => (pg_name (i := 8) Sc.nd rfl (Or.inl rfl) (Or.inr rfl))) (tgc_name (by decide)) (fun _ _ _ _ _ _ => pts_yes) (fun _ _ _ _ _ C => (ce_bin op_fdivA sn_div (ce_bin op_mulM (sn_mul false (fun h => nomatch h)) (ce_ix (ce_v 8) ce_int (fun _ _ => rfl)) (ce_v 9)) (ce_ix (ce_v 8) ce_int (fun _ _ => rfl)))))) ca_nil))) (show BlkOk (["form", "base", "figures_one", "low", "high", "found", "e", "m", "x", "bottom", "top"] : List Str) (defScope s_law_numbers_L) _ [(("top" : Str), 10)] from blkOk_by (by decide +kernel)) (fun _ _ _ _ _ C => (pg_name (i := 10) Sc.nd rfl (Or.inl rfl) (Or.inr rfl))) (tgc_name (by decide)) (fun _ _ _ _ _ _ => pts_yes) (fun _ _ _ _ _ C => (ce_call h_law_low_L C (by decide) rfl (ca_cons (ce_v 10) (ca_cons (ce_v 9) ca_nil)))))))))))
/-! _law_refused_right -/
abbrev s_law_refused_right_L : Stmt := top 82
def d_law_refused_right_L : EnP → Sto → SR := dSeq (dSet 2 (dLst false (dCons (dC .non) (dCons (dC (.str ("?" : Str))) (dCons (dTup (dCons (dC (.int 1)) (dCons (dC (.int 2)) (dCons (dC (.int 0)) (dCons (dC (.int 1)) (dNil)))))) (dCons (dTup (dCons (dC (.int 17)) (dCons (dC (.int 2)) (dCons (dC (.int 0)) (dCons (dC (.int 1)) (dNil)))))) (dCons (dTup (dCons (dC (.int 2)) (dCons (dC (.int 0)) (dCons (dC (.int 0)) (dCons (dC (.int 1)) (dNil)))))) (dCons (dTup (dCons (dC (.int 2)) (dCons (dC (.int 61)) (dCons (dC (.int 0)) (dCons (dC (.int 1)) (dNil)))))) (dCons (dTup (dCons (dC (.int 2)) (dCons (dC (.int 2)) (dCons (dC (.int 1)) (dCons (dC (.int 0)) (dNil)))))) (dCons (dCB (fList false) (dCons (dV 1) (dNil))) (dCons (dSl false (dV 1) (dNoPart) (dPart (dC (.int 3)))) (dNil)))))))))))) (dSeq (dSet 2 (dBin (fAdd false) (dV 2) (dLst false (dCons (dTup (dCons (dC (.int 2)) (dCons (dC (.int 2)) (dCons (dUn fNeg (dC (.int 401))) (dCons (dC (.int 0)) (dNil)))))) (dCons (dTup (dCons (dC (.bl true)) (dCons (dC (.int 2)) (dCons (dC (.int 0)) (dCons (dC (.int 1)) (dNil)))))) (dNil)))))) (dSeq (dSet 3 (dCB F_law_any_L (dCons (dV 0) (dCons (dV 2) (dNil))))) (dSeq (dSet 4 (dCB F_law_any_L (dCons (dV 0) (dCons (dLst false (dCons (dC .non) (dCons (dC (.int 1)) (dCons (dC (.str ("?" : Str))) (dCons (dTup (dCons (dC (.int 2)) (dCons (dC (.int 4)) (dNil)))) (dCons (dTup (dCons (dC (.int 1)) (dCons (dC (.int 0)) (dNil)))) (dCons (dTup (dCons (dC (.int 1)) (dCons (dUn fNeg (dC (.int 2))) (dNil)))) (dCons (dLst false (dCons (dC (.int 1)) (dCons (dC (.int 2)) (dNil)))) (dCons (dTup (dCons (dC (.int 1)) (dCons (dC (.bl true)) (dNil)))) (dCons (dTup (dCons (dC (.int 0)) (dCons (dC (.int 2)) (dNil)))) (dNil))))))))))) (dNil))))) (dSeq (dSet 5 (dLst true (dCons (fun ρ S => G_law_said_L (fun S => (dCB F_most_of (dCons (dV 3) (dNil))) ρ S) S) (dNil)))) (dSeq (dExpr (dApp (dV 5) (dCons (fun ρ S => G_law_said_L (fun S => (dCB F_gap_at (dCons (dV 3) (dCons (dV 4) (dNil)))) ρ S) S) (dNil)))) (dSeq (dSet 5 (dBin (fAdd true) (dV 5) (dLst false (dCons (fun ρ S => G_law_said_L (fun S => (dCB F_gap_at (dCons (dV 1) (dCons (dV 4) (dNil)))) ρ S) S) (dNil))))) (dSeq (dExpr (dApp (dV 5) (dCons (fun ρ S => G_law_said_L (fun S => (dCB F_next_up (dCons (dV 1) (dCons (dV 4) (dNil)))) ρ S) S) (dNil)))) (dSeq (dExpr (dApp (dV 5) (dCons (fun ρ S => G_law_said_L (fun S => (dCB F_next_down (dCons (dV 1) (dCons (dCB F_law_over_L (dCons (dCB F_least_of (dCons (dV 1) (dNil))) (dCons (dTup (dCons (dIf (dB (dBin (fEq false) (dBin fIx (dV 1) (dC (.int 0))) (dC (.int 2)))) (dC (.int 3)) (dC (.int 7))) (dCons (dC (.int 1)) (dNil)))) (dNil)))) (dNil)))) ρ S) S) (dNil)))) (dSeq (dExpr (dApp (dV 5) (dCons (fun ρ S => G_law_said_L (fun S => (dCB F_numbers_from (dCons (dV 1) (dCons (dTup (dCons (dC (.int 1)) (dCons (dC (.int 1)) (dNil)))) (dCons (dV 4) (dNil))))) ρ S) S) (dNil)))) (dSeq (dExpr (dApp (dV 5) (dCons (fun ρ S => G_law_said_L (fun S => (dCB F_numbers_from (dCons (dV 1) (dCons (dTup (dCons (dC (.int 1)) (dCons (dC (.int 1)) (dNil)))) (dCons (dTup (dCons (dC (.int 0)) (dCons (dC (.int 1)) (dNil)))) (dNil))))) ρ S) S) (dNil)))) (dSeq (dExpr (dApp (dV 5) (dCons (fun ρ S => G_law_said_L (fun S => (dCB F_numbers_many (dCons (dTup (dCons (dC (.int 16)) (dCons (dC (.int 60)) (dCons (dC (.int 0)) (dCons (dC (.int 0)) (dNil)))))) (dNil))) ρ S) S) (dNil)))) (dSeq (dIfS (bOr (dB (dBin (fIs true) (dCB F_is_format (dCons (dV 3) (dNil))) (dC (.bl false)))) (dB (dBin (fIs true) (dCB F_is_format (dCons (dV 1) (dNil))) (dC (.bl true))))) (dRet (dC (.bl false))) (dPass)) (dRet (dBin (fEq false) (dV 5) (dLst false (dCons (dC (.str ("format" : Str))) (dCons (dC (.str ("format" : Str))) (dCons (dC (.str ("fraction" : Str))) (dCons (dC (.str ("number of" : Str))) (dCons (dC (.str ("number of" : Str))) (dCons (dC (.str ("fraction" : Str))) (dCons (dC (.str ("stretch" : Str))) (dCons (dC (.str ("many" : Str))) (dNil))))))))))))))))))))))))
def F_law_refused_right_L : List PV → Sto → Res PV := runF 2 6 d_law_refused_right_L
theorem sc_law_refused_right_L : FnScope (["hand", "form", "odd", "bad", "none", "said"] : List Str) (["hand", "form"] : List Str) (defScope s_law_refused_right_L) := ⟨rfl, rfl, rfl, by decide +kernel, rfl, by decide +kernel, by decide +kernel⟩
theorem fc_law_refused_right_L {Z : Wd} (B : Bi Z.mg) (hT : Z.T.lm = none) (h_law_any_L : FC Z 2 "_law_any" F_law_any_L) (h_most_of : FC Z 5 "most_of" F_most_of) (h_gap_at : FC Z 5 "gap_at" F_gap_at) (h_next_up : FC Z 7 "next_up" F_next_up) (h_next_down : FC Z 7 "next_down" F_next_down) (h_law_over_L : FC Z 2 "_law_over" F_law_over_L) (h_least_of : FC Z 5 "least_of" F_least_of) (h_numbers_from : FC Z 7 "numbers_from" F_numbers_from) (h_numbers_many : FC Z 5 "numbers_many" F_numbers_many) (h_is_format : FC Z 3 "is_format" F_is_format) (g_law_said_L : FL Z 0 "_law_said" G_law_said_L) {cA cP : Addr} (hTB : LamX.TabB Z.base Z.mg cA cP) (hMem : (cP, ("_law_refused_right.<locals>.<lambda>" : Str)) ∈ Z.T.tabs) (hU : ∀ p ∈ Z.T.tabs, p.1 = cP → p.2 = ("_law_refused_right.<locals>.<lambda>" : Str)) (D : DefOkC Z "_law_refused_right" s_law_refused_right_L cA) : FC Z 23 "_law_refused_right" F_law_refused_right_L := by
  have Sc := sc_law_refused_right_L
  exact D.fc Sc (fun _ _ _ _ _ _ us hl => match us, hl with | [_, _], _ => rfl) fun f A outer s H E C => by exact (css_cons (cs_set (i := 2) Sc.nd rfl (Or.inl rfl) (ce_lst false (fun h => nomatch h) (ca_cons ce_non (ca_cons ce_str (ca_cons (ce_tup (ca_cons ce_int (ca_cons ce_int (ca_cons ce_int (ca_cons ce_int ca_nil))))) (ca_cons (ce_tup (ca_cons ce_int (ca_cons ce_int (ca_cons ce_int (ca_cons ce_int ca_nil))))) (ca_cons (ce_tup (ca_cons ce_int (ca_cons ce_int (ca_cons ce_int (ca_cons ce_int ca_nil))))) (ca_cons (ce_tup (ca_cons ce_int (ca_cons ce_int (ca_cons ce_int (ca_cons ce_int ca_nil))))) (ca_cons (ce_tup (ca_cons ce_int (ca_cons ce_int (ca_cons ce_int (ca_cons ce_int ca_nil))))) (ca_cons (ce_callTy call_list_of (sl_list false (fun h => nomatch h)) rfl B.b_list PyProof.Rows.boot_list (ca_cons (ce_v 1) ca_nil)) (ca_cons (ce_sl false (fun h => nomatch h) (ce_v 1) co_none (co_some ce_int)) ca_nil))))))))))) (css_cons (cs_set (i := 2) Sc.nd rfl (Or.inl rfl) (ce_bin op_addM (sn_add false (fun h => nomatch h)) (ce_v 2) (ce_lst false (fun h => nomatch h) (ca_cons (ce_tup (ca_cons ce_int (ca_cons ce_int (ca_cons (ce_un un_neg sn_neg ce_int) (ca_cons ce_int ca_nil))))) (ca_cons (ce_tup (ca_cons ce_bl (ca_cons ce_int (ca_cons ce_int (ca_cons ce_int ca_nil))))) ca_nil))))) (css_cons (cs_set (i := 3) Sc.nd rfl (Or.inr rfl) (ce_call h_law_any_L C (by decide) rfl (ca_cons (ce_v 0) (ca_cons (ce_v 2) ca_nil)))) (css_cons (cs_set (i := 4) Sc.nd rfl (Or.inr rfl) (ce_call h_law_any_L C (by decide) rfl (ca_cons (ce_v 0) (ca_cons (ce_lst false (fun h => nomatch h) (ca_cons ce_non (ca_cons ce_int (ca_cons ce_str (ca_cons (ce_tup (ca_cons ce_int (ca_cons ce_int ca_nil))) (ca_cons (ce_tup (ca_cons ce_int (ca_cons ce_int ca_nil))) (ca_cons (ce_tup (ca_cons ce_int (ca_cons (ce_un un_neg sn_neg ce_int) ca_nil))) (ca_cons (ce_lst false (fun h => nomatch h) (ca_cons ce_int (ca_cons ce_int ca_nil))) (ca_cons (ce_tup (ca_cons ce_int (ca_cons ce_bl ca_nil))) (ca_cons (ce_tup (ca_cons ce_int (ca_cons ce_int ca_nil))) ca_nil)))))))))) ca_nil)))) (css_cons (cs_set (i := 5) Sc.nd rfl (Or.inl rfl) (ce_lst true (fun _ => gm_bare C.room.hd hT) (ca_cons (ce_lam (kl := 20) g_law_said_L C (by decide) (by decide) hT rfl hTB rfl hMem hU (show LamX.LamS (defScope s_law_refused_right_L) _ from LamX.lamS_by (by decide +kernel)) rfl (fun _ _ _ _ _ => rfl) (fun A1 outer1 s1 H1 E1 f1 c1 hr1 hg1 => have C := ctx_lam hr1 hg1; (ce_call h_most_of C (by decide) rfl (ca_cons (ce_v 3) ca_nil)))) ca_nil))) (css_cons (cs_expr (ce_app (gm_bare C.room.hd hT) (ce_v 5) (ca_cons (ce_lam (kl := 20) g_law_said_L C (by decide) (by decide) hT rfl hTB rfl hMem hU (show LamX.LamS (defScope s_law_refused_right_L) _ from LamX.lamS_by (by decide +kernel)) rfl (fun _ _ _ _ _ => rfl) (fun A1 outer1 s1 H1 E1 f1 c1 hr1 hg1 => have C := ctx_lam hr1 hg1; (ce_call h_gap_at C (by decide) rfl (ca_cons (ce_v 3) (ca_cons (ce_v 4) ca_nil))))) ca_nil))) (css_cons (cs_set (i := 5) Sc.nd rfl (Or.inl rfl) (ce_bin op_addM (sn_add true (fun _ => gm_bare C.room.hd hT)) (ce_v 5) (ce_lst false (fun h => nomatch h) (ca_cons (ce_lam (kl := 20) g_law_said_L C (by decide) (by decide) hT rfl hTB rfl hMem hU (show LamX.LamS (defScope s_law_refused_right_L) _ from LamX.lamS_by (by decide +kernel)) rfl (fun _ _ _ _ _ => rfl) (fun A1 outer1 s1 H1 E1 f1 c1 hr1 hg1 => have C := ctx_lam hr1 hg1; (ce_call h_gap_at C (by decide) rfl (ca_cons (ce_v 1) (ca_cons (ce_v 4) ca_nil))))) ca_nil)))) (css_cons (cs_expr (ce_app (gm_bare C.room.hd hT) (ce_v 5) (ca_cons (ce_lam (kl := 20) g_law_said_L C (by decide) (by decide) hT rfl hTB rfl hMem hU (show LamX.LamS (defScope s_law_refused_right_L) _ from LamX.lamS_by (by decide +kernel)) rfl (fun _ _ _ _ _ => rfl) (fun A1 outer1 s1 H1 E1 f1 c1 hr1 hg1 => have C := ctx_lam hr1 hg1; (ce_call h_next_up C (by decide) rfl (ca_cons (ce_v 1) (ca_cons (ce_v 4) ca_nil))))) ca_nil))) (css_cons (cs_expr (ce_app (gm_bare C.room.hd hT) (ce_v 5) (ca_cons (ce_lam (kl := 20) g_law_said_L C (by decide) (by decide) hT rfl hTB rfl hMem hU (show LamX.LamS (defScope s_law_refused_right_L) _ from LamX.lamS_by (by decide +kernel)) rfl (fun _ _ _ _ _ => rfl) (fun A1 outer1 s1 H1 E1 f1 c1 hr1 hg1 => have C := ctx_lam hr1 hg1; (ce_call h_next_down C (by decide) rfl (ca_cons (ce_v 1) (ca_cons (ce_call h_law_over_L C (by decide) rfl (ca_cons (ce_call h_least_of C (by decide) rfl (ca_cons (ce_v 1) ca_nil)) (ca_cons (ce_tup (ca_cons (ce_if (ct_cmp (op_eqD (u64 C.u)) sn_eq (ce_ix (ce_v 1) ce_int (fun _ _ => rfl)) ce_int rfl) ce_int ce_int) (ca_cons ce_int ca_nil))) ca_nil))) ca_nil))))) ca_nil))) (css_cons (cs_expr (ce_app (gm_bare C.room.hd hT) (ce_v 5) (ca_cons (ce_lam (kl := 20) g_law_said_L C (by decide) (by decide) hT rfl hTB rfl hMem hU (show LamX.LamS (defScope s_law_refused_right_L) _ from LamX.lamS_by (by decide +kernel)) rfl (fun _ _ _ _ _ => rfl) (fun A1 outer1 s1 H1 E1 f1 c1 hr1 hg1 => have C := ctx_lam hr1 hg1; (ce_call h_numbers_from C (by decide) rfl (ca_cons (ce_v 1) (ca_cons (ce_tup (ca_cons ce_int (ca_cons ce_int ca_nil))) (ca_cons (ce_v 4) ca_nil)))))) ca_nil))) (css_cons (cs_expr (ce_app (gm_bare C.room.hd hT) (ce_v 5) (ca_cons (ce_lam (kl := 20) g_law_said_L C (by decide) (by decide) hT rfl hTB rfl hMem hU (show LamX.LamS (defScope s_law_refused_right_L) _ from LamX.lamS_by (by decide +kernel)) rfl (fun _ _ _ _ _ => rfl) (fun A1 outer1 s1 H1 E1 f1 c1 hr1 hg1 => have C := ctx_lam hr1 hg1; (ce_call h_numbers_from C (by decide) rfl (ca_cons (ce_v 1) (ca_cons (ce_tup (ca_cons ce_int (ca_cons ce_int ca_nil))) (ca_cons (ce_tup (ca_cons ce_int (ca_cons ce_int ca_nil))) ca_nil)))))) ca_nil))) (css_cons (cs_expr (ce_app (gm_bare C.room.hd hT) (ce_v 5) (ca_cons (ce_lam (kl := 20) g_law_said_L C (by decide) (by decide) hT rfl hTB rfl hMem hU (show LamX.LamS (defScope s_law_refused_right_L) _ from LamX.lamS_by (by decide +kernel)) rfl (fun _ _ _ _ _ => rfl) (fun A1 outer1 s1 H1 E1 f1 c1 hr1 hg1 => have C := ctx_lam hr1 hg1; (ce_call h_numbers_many C (by decide) rfl (ca_cons (ce_tup (ca_cons ce_int (ca_cons ce_int (ca_cons ce_int (ca_cons ce_int ca_nil))))) ca_nil)))) ca_nil))) (css_cons (cs_if (ct_w (cw_or (ct_cmp op_notA sn_notB (ce_call h_is_format C (by decide) rfl (ca_cons (ce_v 3) ca_nil)) ce_bl rfl) (cw_or1 (ct_cmp op_notA sn_notB (ce_call h_is_format C (by decide) rfl (ca_cons (ce_v 1) ca_nil)) ce_bl rfl)))) (css_one (cs_ret ce_bl)) css_nil) (css_one (cs_ret (ce_cmp (op_eqD (u64 C.u)) sn_eq (ce_v 5) (ce_lst false (fun h => nomatch h) (ca_cons ce_str (ca_cons ce_str (ca_cons ce_str (ca_cons ce_str (ca_cons ce_str (ca_cons ce_str (ca_cons ce_str (ca_cons ce_str ca_nil))))))))) rfl))))))))))))))))
/-! law -/
abbrev s_law : Stmt := top 83
def d_law : EnP → Sto → SR := dSeq (dSet 1 (dCB F_law_hand_L (dCons (dV 0) (dNil)))) (dSeq (dFor (iRange (dCons (dC (.int 4)) (dNil))) (gNm 2) (dSeq (dSet 3 (dCB F_law_any_L (dCons (dV 1) (dCons (dLst false (dCons (dC (.int 2)) (dCons (dC (.int 2)) (dCons (dC (.int 3)) (dCons (dC (.int 4)) (dNil)))))) (dNil))))) (dSeq (dSet 4 (dBin fSub (dC (.int 0)) (dCB F_law_draw_L (dCons (dV 1) (dCons (dC (.int 4)) (dNil)))))) (dSeq (dSet 5 (dTup (dCons (dV 3) (dCons (dBin (fAdd false) (dC (.int 1)) (dCB F_law_draw_L (dCons (dV 1) (dCons (dIf (dB (dBin (fCmpI iGt) (dV 3) (dC (.int 2)))) (dC (.int 2)) (dC (.int 3))) (dNil))))) (dCons (dV 4) (dCons (dBin (fAdd false) (dV 4) (dCB F_law_draw_L (dCons (dV 1) (dCons (dC (.int 4)) (dNil))))) (dNil))))))) (dSeq (dSet 6 (dCB F_law_numbers_L (dCons (dV 5) (dNil)))) (dSeq (dIfS (bOr (dB (dBin (fEq true) (dCB F_numbers_many (dCons (dV 5) (dNil))) (dCB fLen (dCons (dV 6) (dNil))))) (dB (dBin (fEq true) (dCB F_most_of (dCons (dV 5) (dNil))) (dBin fIx (dV 6) (dUn fNeg (dC (.int 1))))))) (dRet (dC (.bl false))) (dPass)) (dSeq (dIfS (dB (dBin (fEq true) (dCB F_least_of (dCons (dV 5) (dNil))) (dBin fIx (dLc false (iSeq (dV 6)) (cNm 7) (dB (dBin (fCmpI iGt) (dBin fIx (dV 7) (dC (.int 0))) (dC (.int 0)))) (dV 7) [7]) (dC (.int 0))))) (dRet (dC (.bl false))) (dPass)) (dSeq (dFor (iRange (dCons (dC (.int 6)) (dNil))) (gNm 8) (dSeq (dSet 9 (dCB F_law_draw_L (dCons (dV 1) (dCons (dCB fLen (dCons (dV 6) (dNil))) (dNil))))) (dSeq (dSet 7 (dBin fIx (dV 6) (dV 9))) (dSeq (dIfS (dB (dBin (fEq true) (dCB F_next_up (dCons (dV 5) (dCons (dV 7) (dNil)))) (dIf (dB (dBin (fCmpI iLt) (dBin (fAdd false) (dV 9) (dC (.int 1))) (dCB fLen (dCons (dV 6) (dNil))))) (dBin fIx (dV 6) (dBin (fAdd false) (dV 9) (dC (.int 1)))) (dC .non)))) (dRet (dC (.bl false))) (dPass)) (dSeq (dIfS (dB (dBin (fEq true) (dCB F_next_down (dCons (dV 5) (dCons (dV 7) (dNil)))) (dIf (dB (dBin (fCmpI iGt) (dV 9) (dC (.int 0)))) (dBin fIx (dV 6) (dBin fSub (dV 9) (dC (.int 1)))) (dC .non)))) (dRet (dC (.bl false))) (dPass)) (dSeq (dSet 10 (dCB F_law_low_L (dCons (dBin fSub (dCB F_law_draw_L (dCons (dV 1) (dCons (dC (.int 41)) (dNil)))) (dC (.int 20))) (dCons (dBin (fAdd false) (dC (.int 1)) (dCB F_law_draw_L (dCons (dV 1) (dCons (dC (.int 9)) (dNil))))) (dNil))))) (dSeq (dSet 10 (dCB F_law_any_L (dCons (dV 1) (dCons (dLst false (dCons (dV 10) (dCons (dV 7) (dCons (dCB F_law_plus_L (dCons (dV 7) (dCons (dCB F_law_low_L (dCons (dC (.int 1)) (dCons (dBin (fMul false) (dC (.int 24)) (dBin fIx (dBin fIx (dV 6) (dUn fNeg (dC (.int 1)))) (dC (.int 1)))) (dNil)))) (dNil)))) (dNil))))) (dNil))))) (dSeq (dIfS (bOr (dB (dBin (fEq true) (dCB F_is_number_of (dCons (dV 5) (dCons (dV 10) (dNil)))) (dBin (fInD false) (dV 10) (dV 6)))) (dB (dBin (fEq true) (dCB F_gap_at (dCons (dV 5) (dCons (dV 10) (dNil)))) (dCB F_law_gap_L (dCons (dV 5) (dCons (dV 10) (dNil))))))) (dRet (dC (.bl false))) (dPass)) (dSeq (dIfS (dTru (dCB F_law_is_most_L (dCons (dCB F_law_size_L (dCons (dV 10) (dNil))) (dCons (dBin fIx (dV 6) (dUn fNeg (dC (.int 1)))) (dNil))))) (dSeq (dSet 11 (dBin fIx (dLc false (iSeq (dV 6)) (cNm 12) (dTru (dCB F_law_is_most_L (dCons (dV 12) (dCons (dV 10) (dNil))))) (dV 12) [12]) (dUn fNeg (dC (.int 1))))) (dSeq (dSet 13 (dBin fIx (dLc false (iSeq (dV 6)) (cNm 12) (dTru (dCB F_law_is_most_L (dCons (dV 10) (dCons (dV 12) (dNil))))) (dV 12) [12]) (dC (.int 0)))) (dSeq (dIfS (bOr (dB (dBin (fEq true) (dCB F_rounded (dCons (dV 5) (dCons (dC (.str ("down" : Str))) (dCons (dV 10) (dNil))))) (dV 11))) (dB (dBin (fEq true) (dCB F_rounded (dCons (dV 5) (dCons (dC (.str ("up" : Str))) (dCons (dV 10) (dNil))))) (dV 13)))) (dRet (dC (.bl false))) (dPass)) (dSeq (dIfS (bNot (dTru (dCB F_law_is_most_L (dCons (dCB F_law_less_L (dCons (dV 13) (dCons (dV 11) (dNil)))) (dCons (dCB F_off_for (dCons (dV 5) (dCons (dC (.str ("down" : Str))) (dCons (dV 10) (dNil))))) (dNil)))))) (dRet (dC (.bl false))) (dPass)) (dSeq (dIfS (dB (dBin (fEq true) (dCB F_hold_of (dCons (dV 5) (dCons (dC (.str ("up" : Str))) (dCons (dV 10) (dNil))))) (dTup (dCons (dV 10) (dCons (dV 10) (dCons (dCB F_law_less_L (dCons (dV 13) (dCons (dV 10) (dNil)))) (dNil))))))) (dRet (dC (.bl false))) (dPass)) (dIfS (dB (dBin (fIs true) (dCB F_at_most (dCons (dV 11) (dCons (dV 13) (dNil)))) (dC (.bl true)))) (dRet (dC (.bl false))) (dPass))))))) (dPass)) (dSeq (dSet 14 (dCB F_law_plus_L (dCons (dV 10) (dCons (dTup (dCons (dCB F_law_draw_L (dCons (dV 1) (dCons (dC (.int 5)) (dNil)))) (dCons (dC (.int 2)) (dNil)))) (dNil))))) (dSeq (dSet 15 (dLc false (iSeq (dV 6)) (cNm 12) (bAnd (dTru (dCB F_law_is_most_L (dCons (dV 10) (dCons (dV 12) (dNil))))) (dTru (dCB F_law_is_most_L (dCons (dV 12) (dCons (dV 14) (dNil)))))) (dV 12) [12])) (dIfS (dB (dBin (fEq true) (dCB F_numbers_from (dCons (dV 5) (dCons (dV 10) (dCons (dV 14) (dNil))))) (dCB fTuple (dCons (dV 15) (dNil))))) (dRet (dC (.bl false))) (dPass))))))))))))) (dIfS (bNot (dTru (dCB F_law_refused_right_L (dCons (dV 1) (dCons (dV 5) (dNil)))))) (dRet (dC (.bl false))) (dPass)))))))))) (dSeq (dIfS (bOr (dB (dBin (fEq true) (dCB F_fraction (dCons (dC (.int 6)) (dCons (dUn fNeg (dC (.int 4))) (dNil)))) (dTup (dCons (dUn fNeg (dC (.int 3))) (dCons (dC (.int 2)) (dNil)))))) (dB (dBin (fEq true) (dCB F_numbers_many (dCons (dTup (dCons (dC (.int 2)) (dCons (dC (.int 2)) (dCons (dC (.int 0)) (dCons (dC (.int 1)) (dNil)))))) (dNil))) (dC (.int 11))))) (dRet (dC (.bl false))) (dPass)) (dRet (dBin (fEq false) (dCB F_numbers_from (dCons (dTup (dCons (dC (.int 2)) (dCons (dC (.int 2)) (dCons (dC (.int 0)) (dCons (dC (.int 1)) (dNil)))))) (dCons (dTup (dCons (dC (.int 1)) (dCons (dC (.int 1)) (dNil)))) (dCons (dTup (dCons (dC (.int 6)) (dCons (dC (.int 1)) (dNil)))) (dNil))))) (dTup (dCons (dTup (dCons (dC (.int 1)) (dCons (dC (.int 1)) (dNil)))) (dCons (dTup (dCons (dC (.int 2)) (dCons (dC (.int 1)) (dNil)))) (dCons (dTup (dCons (dC (.int 3)) (dCons (dC (.int 1)) (dNil)))) (dCons (dTup (dCons (dC (.int 4)) (dCons (dC (.int 1)) (dNil)))) (dCons (dTup (dCons (dC (.int 6)) (dCons (dC (.int 1)) (dNil)))) (dNil)))))))))))
def F_law : List PV → Sto → Res PV := runF 1 16 d_law
theorem sc_law : FnScope (["script", "hand", "turn_no", "base", "low", "form", "row", "x", "turn", "at", "y", "ahead", "one", "behind", "z", "some"] : List Str) (["script"] : List Str) (defScope s_law) := ⟨rfl, rfl, rfl, by decide +kernel, rfl, by decide +kernel, by decide +kernel⟩
theorem fc_law {Z : Wd} (B : Bi Z.mg) (hT : Z.T.lm = none) (h_law_hand_L : FC Z 1 "_law_hand" F_law_hand_L) (h_law_any_L : FC Z 2 "_law_any" F_law_any_L) (h_law_draw_L : FC Z 1 "_law_draw" F_law_draw_L) (h_law_numbers_L : FC Z 3 "_law_numbers" F_law_numbers_L) (h_numbers_many : FC Z 5 "numbers_many" F_numbers_many) (h_most_of : FC Z 5 "most_of" F_most_of) (h_least_of : FC Z 5 "least_of" F_least_of) (h_next_up : FC Z 7 "next_up" F_next_up) (h_next_down : FC Z 7 "next_down" F_next_down) (h_law_low_L : FC Z 1 "_law_low" F_law_low_L) (h_law_plus_L : FC Z 2 "_law_plus" F_law_plus_L) (h_is_number_of : FC Z 6 "is_number_of" F_is_number_of) (h_gap_at : FC Z 5 "gap_at" F_gap_at) (h_law_gap_L : FC Z 2 "_law_gap" F_law_gap_L) (h_law_is_most_L : FC Z 1 "_law_is_most" F_law_is_most_L) (h_law_size_L : FC Z 1 "_law_size" F_law_size_L) (h_rounded : FC Z 6 "rounded" F_rounded) (h_off_for : FC Z 5 "off_for" F_off_for) (h_law_less_L : FC Z 3 "_law_less" F_law_less_L) (h_hold_of : FC Z 7 "hold_of" F_hold_of) (h_at_most : FC Z 5 "at_most" F_at_most) (h_numbers_from : FC Z 7 "numbers_from" F_numbers_from) (h_law_refused_right_L : FC Z 23 "_law_refused_right" F_law_refused_right_L) (h_fraction : FC Z 3 "fraction" F_fraction) (D : DefOk Z "law" s_law) : FC Z 24 "law" F_law := by
  have Sc := sc_law
  exact D.fc Sc (fun _ _ _ _ _ _ us hl => match us, hl with | [_], _ => rfl) fun f cdv A outer s H E C => by exact (css_cons (cs_set (i := 1) Sc.nd rfl (Or.inl rfl) (ce_call h_law_hand_L C (by decide) rfl (ca_cons (ce_v 0) ca_nil))) (css_cons (cs_for C.po C.calm (ci_range1 rfl B.b_range (ca_cons ce_int ca_nil) rfl len1) (cg_name (i := 2) Sc.nd rfl (Or.inl rfl)) (css_cons (cs_set (i := 3) Sc.nd rfl (Or.inl rfl) (ce_call h_law_any_L C (by decide) rfl (ca_cons (ce_v 1) (ca_cons (ce_lst false (fun h => nomatch h) (ca_cons ce_int (ca_cons ce_int (ca_cons ce_int (ca_cons ce_int ca_nil))))) ca_nil)))) (css_cons (cs_set (i := 4) Sc.nd rfl (Or.inl rfl) (ce_bin op_sub sn_sub ce_int (ce_call h_law_draw_L C (by decide) rfl (ca_cons (ce_v 1) (ca_cons ce_int ca_nil))))) (css_cons (cs_set (i := 5) Sc.nd rfl (Or.inl rfl) (ce_tup (ca_cons (ce_v 3) (ca_cons (ce_bin op_addM (sn_add false (fun h => nomatch h)) ce_int (ce_call h_law_draw_L C (by decide) rfl (ca_cons (ce_v 1) (ca_cons (ce_if (ct_cmp op_gt (sn_cmpI iGt) (ce_v 3) ce_int rfl) ce_int ce_int) ca_nil)))) (ca_cons (ce_v 4) (ca_cons (ce_bin op_addM (sn_add false (fun h => nomatch h)) (ce_v 4) (ce_call h_law_draw_L C (by decide) rfl (ca_cons (ce_v 1) (ca_cons ce_int ca_nil)))) ca_nil)))))) (css_cons (cs_set (i := 6) Sc.nd rfl (Or.inl rfl) (ce_call h_law_numbers_L C (by decide) rfl (ca_cons (ce_v 5) ca_nil))) (css_cons (cs_if (ct_w (cw_or (ct_cmp (op_neD (u64 C.u)) sn_ne (ce_call h_numbers_many C (by decide) rfl (ca_cons (ce_v 5) ca_nil)) (ce_callB (x := ("len" : Str)) call_len sl_len rfl B.b_len (by decide +kernel) (ca_cons (ce_v 6) ca_nil)) rfl) (cw_or1 (ct_cmp (op_neD (u64 C.u)) sn_ne (ce_call h_most_of C (by decide) rfl (ca_cons (ce_v 5) ca_nil)) (ce_ix (ce_v 6) (ce_un un_neg sn_neg ce_int) (fun _ _ => rfl)) rfl)))) (css_one (cs_ret ce_bl)) css_nil) (css_cons (cs_if (ct_cmp (op_neD (u64 C.u)) sn_ne (ce_call h_least_of C (by decide) rfl (ca_cons (ce_v 5) ca_nil)) (ce_ix (ce_lcC false (fun h => nomatch h) C Sc.nd (ci_seq (ce_v 6)) (show BlkOk (["script", "hand", "turn_no", "base", "low", "form", "row", "x", "turn", "at", "y", "ahead", "one", "behind", "z", "some"] : List Str) (defScope s_law) _ [(("x" : Str), 7)] from blkOk_by (by decide +kernel)) (fun _ _ _ _ _ C => (pg_name (i := 7) Sc.nd rfl (Or.inl rfl) (Or.inr rfl))) (tgc_name (by decide)) (fun _ _ _ _ _ C => pts_one (ct_cmp op_gt (sn_cmpI iGt) (ce_ix (ce_v 7) ce_int (fun _ _ => rfl)) ce_int rfl)) (fun _ _ _ _ _ C => (ce_v 7))) ce_int (fun _ _ => rfl)) rfl) (css_one (cs_ret ce_bl)) css_nil) (css_cons (cs_for C.po C.calm (ci_range1 rfl B.b_range (ca_cons ce_int ca_nil) rfl len1) (cg_name (i := 8) Sc.nd rfl (Or.inl rfl)) (css_cons (cs_set (i := 9) Sc.nd rfl (Or.inl rfl) (ce_call h_law_draw_L C (by decide) rfl (ca_cons (ce_v 1) (ca_cons (ce_callB (x := ("len" : Str)) call_len sl_len rfl B.b_len (by decide +kernel) (ca_cons (ce_v 6) ca_nil)) ca_nil)))) (css_cons (cs_set (i := 7) Sc.nd rfl (Or.inl rfl) (ce_ix (ce_v 6) (ce_v 9) (fun _ _ => rfl))) (css_cons (cs_if (ct_cmp (op_neD (u64 C.u)) sn_ne (ce_call h_next_up C (by decide) rfl (ca_cons (ce_v 5) (ca_cons (ce_v 7) ca_nil))) (ce_if (ct_cmp op_lt (sn_cmpI iLt) (ce_bin op_addM (sn_add false (fun h => nomatch h)) (ce_v 9) ce_int) (ce_callB (x := ("len" : Str)) call_len sl_len rfl B.b_len (by decide +kernel) (ca_cons (ce_v 6) ca_nil)) rfl) (ce_ix (ce_v 6) (ce_bin op_addM (sn_add false (fun h => nomatch h)) (ce_v 9) ce_int) (fun _ _ => rfl)) ce_non) rfl) (css_one (cs_ret ce_bl)) css_nil) (css_cons (cs_if (ct_cmp (op_neD (u64 C.u)) sn_ne (ce_call h_next_down C (by decide) rfl (ca_cons (ce_v 5) (ca_cons (ce_v 7) ca_nil))) (ce_if (ct_cmp op_gt (sn_cmpI iGt) (ce_v 9) ce_int rfl) (ce_ix (ce_v 6) (ce_bin op_sub sn_sub (ce_v 9) ce_int) (fun _ _ => rfl)) ce_non) rfl) (css_one (cs_ret ce_bl)) css_nil) (css_cons (cs_set (i := 10) Sc.nd rfl (Or.inr rfl) (ce_call h_law_low_L C (by decide) rfl (ca_cons (ce_bin op_sub sn_sub (ce_call h_law_draw_L C (by decide) rfl (ca_cons (ce_v 1) (ca_cons ce_int ca_nil))) ce_int) (ca_cons (ce_bin op_addM (sn_add false (fun h => nomatch h)) ce_int (ce_call h_law_draw_L C (by decide) rfl (ca_cons (ce_v 1) (ca_cons ce_int ca_nil)))) ca_nil)))) (css_cons (cs_set (i := 10) Sc.nd rfl (Or.inr rfl) (ce_call h_law_any_L C (by decide) rfl (ca_cons (ce_v 1) (ca_cons (ce_lst false (fun h => nomatch h) (ca_cons (ce_v 10) (ca_cons (ce_v 7) (ca_cons (ce_call h_law_plus_L C (by decide) rfl (ca_cons (ce_v 7) (ca_cons (ce_call h_law_low_L C (by decide) rfl (ca_cons ce_int (ca_cons (ce_bin op_mulM (sn_mul false (fun h => nomatch h)) ce_int (ce_ix (ce_ix (ce_v 6) (ce_un un_neg sn_neg ce_int) (fun _ _ => rfl)) ce_int (fun _ _ => rfl))) ca_nil))) ca_nil))) ca_nil)))) ca_nil)))) (css_cons (cs_if (ct_w (cw_or (ct_cmp (op_neD (u64 C.u)) sn_ne (ce_call h_is_number_of C (by decide) rfl (ca_cons (ce_v 5) (ca_cons (ce_v 10) ca_nil))) (ce_cmp (op_inD (u65 C.u)) sn_inD (ce_v 10) (ce_v 6) rfl) rfl) (cw_or1 (ct_cmp (op_neD (u64 C.u)) sn_ne (ce_call h_gap_at C (by decide) rfl (ca_cons (ce_v 5) (ca_cons (ce_v 10) ca_nil))) (ce_call h_law_gap_L C (by decide) rfl (ca_cons (ce_v 5) (ca_cons (ce_v 10) ca_nil))) rfl)))) (css_one (cs_ret ce_bl)) css_nil) (css_cons (cs_if (ct_tru (ce_call h_law_is_most_L C (by decide) rfl (ca_cons (ce_call h_law_size_L C (by decide) rfl (ca_cons (ce_v 10) ca_nil)) (ca_cons (ce_ix (ce_v 6) (ce_un un_neg sn_neg ce_int) (fun _ _ => rfl)) ca_nil)))) (css_cons (cs_set (i := 11) Sc.nd rfl (Or.inl rfl) (ce_ix (ce_lcC false (fun h => nomatch h) C Sc.nd (ci_seq (ce_v 6)) (show BlkOk (["script", "hand", "turn_no", "base", "low", "form", "row", "x", "turn", "at", "y", "ahead", "one", "behind", "z", "some"] : List Str) (defScope s_law) _ [(("one" : Str), 12)] from blkOk_by (by decide +kernel)) (fun _ _ _ _ _ C => (pg_name (i := 12) Sc.nd rfl (Or.inl rfl) (Or.inr rfl))) (tgc_name (by decide)) (fun _ _ _ _ _ C => pts_one (ct_tru (ce_call h_law_is_most_L C (by decide) rfl (ca_cons (ce_v 12) (ca_cons (ce_v 10) ca_nil))))) (fun _ _ _ _ _ C => (ce_v 12))) (ce_un un_neg sn_neg ce_int) (fun _ _ => rfl))) (css_cons (cs_set (i := 13) Sc.nd rfl (Or.inl rfl) (ce_ix (ce_lcC false (fun h => nomatch h) C Sc.nd (ci_seq (ce_v 6)) (show BlkOk (["script", "hand", "turn_no", "base", "low", "form", "row", "x", "turn", "at", "y", "ahead", "one", "behind", "z", "some"] : List Str) (defScope s_law) _ [(("one" : Str), 12)] from blkOk_by (by decide +kernel)) (fun _ _ _ _ _ C => (pg_name (i := 12) Sc.nd rfl (Or.inl rfl) (Or.inr rfl))) (tgc_name (by decide)) (fun _ _ _ _ _ C => pts_one (ct_tru (ce_call h_law_is_most_L C (by decide) rfl (ca_cons (ce_v 10) (ca_cons (ce_v 12) ca_nil))))) (fun _ _ _ _ _ C => (ce_v 12))) ce_int (fun _ _ => rfl))) (css_cons (cs_if (ct_w (cw_or (ct_cmp (op_neD (u64 C.u)) sn_ne (ce_call h_rounded C (by decide) rfl (ca_cons (ce_v 5) (ca_cons ce_str (ca_cons (ce_v 10) ca_nil)))) (ce_v 11) rfl) (cw_or1 (ct_cmp (op_neD (u64 C.u)) sn_ne (ce_call h_rounded C (by decide) rfl (ca_cons (ce_v 5) (ca_cons ce_str (ca_cons (ce_v 10) ca_nil)))) (ce_v 13) rfl)))) (css_one (cs_ret ce_bl)) css_nil) (css_cons (cs_if (ct_not (ct_tru (ce_call h_law_is_most_L C (by decide) rfl (ca_cons (ce_call h_law_less_L C (by decide) rfl (ca_cons (ce_v 13) (ca_cons (ce_v 11) ca_nil))) (ca_cons (ce_call h_off_for C (by decide) rfl (ca_cons (ce_v 5) (ca_cons ce_str (ca_cons (ce_v 10) ca_nil)))) ca_nil))))) (css_one (cs_ret ce_bl)) css_nil) (css_cons (cs_if (ct_cmp (op_neD (u64 C.u)) sn_ne (ce_call h_hold_of C (by decide) rfl (ca_cons (ce_v 5) (ca_cons ce_str (ca_cons (ce_v 10) ca_nil)))) (ce_tup (ca_cons (ce_v 10) (ca_cons (ce_v 10) (ca_cons (ce_call h_law_less_L C (by decide) rfl (ca_cons (ce_v 13) (ca_cons (ce_v 10) ca_nil))) ca_nil)))) rfl) (css_one (cs_ret ce_bl)) css_nil) (css_one (cs_if (ct_cmp op_notA sn_notB (ce_call h_at_most C (by decide) rfl (ca_cons (ce_v 11) (ca_cons (ce_v 13) ca_nil))) ce_bl rfl) (css_one (cs_ret ce_bl)) css_nil))))))) css_nil) (css_cons (cs_set (i := 14) Sc.nd rfl (Or.inr rfl) (ce_call h_law_plus_L C (by decide) rfl (ca_cons (ce_v 10) (ca_cons (ce_tup (ca_cons (ce_call h_law_draw_L C (by decide) rfl (ca_cons (ce_v 1) (ca_cons ce_int ca_nil))) (ca_cons ce_int ca_nil))) ca_nil)))) (css_cons (cs_lcC false (fun h => nomatch h) C Sc.nd rfl rfl (sw_true rfl rfl rfl rfl) (ci_seq (ce_v 6)) (show BlkOk (["script", "hand", "turn_no", "base", "low", "form", "row", "x", "turn", "at", "y", "ahead", "one", "behind", "z", "some"] : List Str) (defScope s_law) _ [(("one" : Str), 12)] from blkOk_by (by decide +kernel)) (fun _ _ _ _ _ C => (pg_name (i := 12) Sc.nd rfl (Or.inl rfl) (Or.inr rfl))) (tgc_name (by decide)) (fun _ _ _ _ _ C => pts_one (ct_w (cw_and (ct_tru (ce_call h_law_is_most_L C (by decide) rfl (ca_cons (ce_v 10) (ca_cons (ce_v 12) ca_nil)))) (cw_and1 (ct_tru (ce_call h_law_is_most_L C (by decide) rfl (ca_cons (ce_v 12) (ca_cons (ce_v 14) ca_nil)))))))) (fun _ _ _ _ _ C => (ce_v 12))) (css_one (cs_if (ct_cmp (op_neD (u64 C.u)) sn_ne (ce_call h_numbers_from C (by decide) rfl (ca_cons (ce_v 5) (ca_cons (ce_v 10) (ca_cons (ce_v 14) ca_nil)))) (ce_callTy call_tuple_of sl_tuple rfl B.b_tuple PyProof.Rows.boot_tuple (ca_cons (ce_v 15) ca_nil)) rfl) (css_one (cs_ret ce_bl)) css_nil))))))))))))) (css_one (cs_if (ct_not (ct_tru (ce_call h_law_refused_right_L C (by decide) rfl (ca_cons (ce_v 1) (ca_cons (ce_v 5) ca_nil))))) (css_one (cs_ret ce_bl)) css_nil)))))))))) (css_cons (cs_if (ct_w (cw_or (ct_cmp (op_neD (u64 C.u)) sn_ne (ce_call h_fraction C (by decide) rfl (ca_cons ce_int (ca_cons (ce_un un_neg sn_neg ce_int) ca_nil))) (ce_tup (ca_cons (ce_un un_neg sn_neg ce_int) (ca_cons ce_int ca_nil))) rfl) (cw_or1 (ct_cmp (op_neD (u64 C.u)) sn_ne (ce_call h_numbers_many C (by decide) rfl (ca_cons (ce_tup (ca_cons ce_int (ca_cons ce_int (ca_cons ce_int (ca_cons ce_int ca_nil))))) ca_nil)) ce_int rfl)))) (css_one (cs_ret ce_bl)) css_nil) (css_one (cs_ret (ce_cmp (op_eqD (u64 C.u)) sn_eq (ce_call h_numbers_from C (by decide) rfl (ca_cons (ce_tup (ca_cons ce_int (ca_cons ce_int (ca_cons ce_int (ca_cons ce_int ca_nil))))) (ca_cons (ce_tup (ca_cons ce_int (ca_cons ce_int ca_nil))) (ca_cons (ce_tup (ca_cons ce_int (ca_cons ce_int ca_nil))) ca_nil)))) (ce_tup (ca_cons (ce_tup (ca_cons ce_int (ca_cons ce_int ca_nil))) (ca_cons (ce_tup (ca_cons ce_int (ca_cons ce_int ca_nil))) (ca_cons (ce_tup (ca_cons ce_int (ca_cons ce_int ca_nil))) (ca_cons (ce_tup (ca_cons ce_int (ca_cons ce_int ca_nil))) (ca_cons (ce_tup (ca_cons ce_int (ca_cons ce_int ca_nil))) ca_nil)))))) rfl))))))
end G04
end
section
set_option Elab.async false
set_option linter.all false
set_option maxRecDepth 100000
set_option maxHeartbeats 4000000
namespace G04
open PySem PySem.Spec PyProof.Rows L2 Mi Ra

/-! ### fractions -/
theorem gcd_loop (n : Nat) : ∀ (a b : Nat) (S : Sto), b < n → whileP (dB (dBin (fCmpI iGt) (dV 1) (dC (.int 0)))) (dPar 0 1 (dCons (dV 1) (dCons (dBin fMod (dV 0) (dV 1)) (dNil)))) n [some (.int a), some (.int b)] S = .nx [some (.int (Nat.gcd a b)), some (.int 0)] S := by
  induction n with
  | zero => intro a b S h; omega
  | succ n ih =>
    intro a b S h
    rw [whileP]
    by_cases hb : b = 0
    · subst hb
      simp [runF, startP, endOf, dRet, dRetN, dIf, dIfS, dB, dBin, dUn, dV, dC, sE, asB, dSeq, dSet, dPar, dPar3, dAsg, dExpr, dAnd, dOr, dNot, bAnd, bOr, bNot, dTru, dCB, dCons, dNil, dTup, dLst, dChain, dPass, fCmpI, fIsN, gTp, gsCons, gsNil, gNm, mkTup, dSl, dPart, dNoPart, lim, iLt, iLe, iGt, iGe]
    · have hp : (0 : Int) < (b : Int) := by omega
      have e : fMod (.int a) (.int b) S = .ok (.int ((a % b : Nat) : Int)) S := by rw [mod_sm hp, fmod_nat]
      have lt := Nat.mod_lt a (by omega : 0 < b)
      have step := ih b (a % b) S (by omega)
      have hg : Nat.gcd b (a % b) = Nat.gcd a b := by rw [Nat.gcd_comm a b, Nat.gcd_rec b a, Nat.gcd_comm]
      simp only [runF, startP, endOf, dRet, dRetN, dIf, dIfS, dB, dBin, dUn, dV, dC, sE, asB, dSeq, dSet, dPar, dPar3, dAsg, dExpr, dAnd, dOr, dNot, bAnd, bOr, bNot, dTru, dCB, dCons, dNil, dTup, dLst, dChain, dPass, fCmpI, fIsN, gTp, gsCons, gsNil, gNm, mkTup, dSl, dPart, dNoPart, lim, iLt, iLe, iGt, iGe, List.getElem?_cons_succ, List.getElem?_cons_zero, Res.bind_ok, iGt, decide_eq_true hp, if_true, e, List.set_cons_zero, List.set_cons_succ]
      rw [step, hg]
theorem e_gcd {a b : Int} {S : Sto} (hb : b.natAbs < fuel) : F_common_divisor [.int a, .int b] S = .ok (.int (Int.gcd a b)) S := by
  have ab : ∀ i : Int, (if i < 0 then -i else i) = (i.natAbs : Int) := fun i => by split <;> omega
  have h := gcd_loop fuel a.natAbs b.natAbs S hb
  have e : F_common_divisor [.int a, .int b] S = endOf (match whileP (dB (dBin (fCmpI iGt) (dV 1) (dC (.int 0)))) (dPar 0 1 (dCons (dV 1) (dCons (dBin fMod (dV 0) (dV 1)) (dNil)))) fuel [some (.int (if a < 0 then -a else a)), some (.int (if b < 0 then -b else b))] S with
    | .nx ρ' S' => dRet (dV 0) ρ' S'
    | r => r) := rfl
  rw [e, ab, ab, h]
  rfl
theorem fuel_big {n : Nat} (h : n ≤ 10 ^ 601) : n < fuel := Nat.lt_of_le_of_lt h (by decide +kernel)
theorem e_too_great (S : Sto) : F_too_great [] S = .ok (.int big) S := by kernel_rfl
theorem gcd_sm {a b : Int} (hb : b ≠ 0) (h : b.natAbs ≤ 10 ^ 601) : 0 < ((Int.gcd a b : Nat) : Int) ∧ ((Int.gcd a b : Nat) : Int).natAbs ≤ 2 ^ 4000 := by
  have p := Int.gcd_pos_of_ne_zero_right a hb
  have l : Int.gcd a b ≤ b.natAbs := by
    have d : (Int.gcd a b : Nat) ∣ b.natAbs := Nat.gcd_dvd_right _ _
    exact Nat.le_of_dvd (by omega) d
  refine ⟨by omega, ?_⟩
  have := le4000 h
  rw [Int.natAbs_natCast]
  omega
/-- what made tells -/
def rQ (q : Rat) (S : Sto) : Res PV := if q.num.natAbs < 10 ^ 300 ∧ q.den < 10 ^ 300 then .ok (eQ q) S else .exc "NoFraction" [] S
theorem rQ_ok {q : Rat} {S : Sto} (h : Ok q) : rQ q S = .ok (eQ q) S := if_pos ⟨h.n, h.d⟩
theorem big_is : big = ((10 ^ 300 : Nat) : Int) := by decide +kernel
theorem e_made {a b : Int} {S : Sto} (hb : b ≠ 0) (h : b.natAbs ≤ 10 ^ 601) : F_made [.int a, .int b] S = rQ (Rat.divInt a b) S := by
  have h5 := e_gcd (a := a) (b := b) (S := S) (fuel_big h)
  obtain ⟨g0, g1⟩ := gcd_sm (a := a) hb h
  have dv : ∀ i S, fDiv (.int i) (.int ((Int.gcd a b : Nat) : Int)) S = .ok (.int (i.fdiv ((Int.gcd a b : Nat) : Int))) S := fun i S => div_sm g0 g1
  have e : (if b > 0 then PV.tup [.int (a.fdiv (Int.gcd a b)), .int (b.fdiv (Int.gcd a b))] else .tup [.int ((-a).fdiv (Int.gcd a b)), .int ((-b).fdiv (Int.gcd a b))]) = eQ (Rat.divInt a b) := by
    unfold eQ
    split
    · rename_i hp
      rw [num_div hp, den_div hp]
    · rw [num_divN (by omega), den_divN (by omega)]
  generalize hq : Rat.divInt a b = q at e
  have l1 : (big ≤ (if q.num < 0 then -q.num else q.num)) ↔ ¬ q.num.natAbs < 10 ^ 300 := by rw [big_is]; split <;> omega
  have l2 : (big ≤ (q.den : Int)) ↔ ¬ q.den < 10 ^ 300 := by rw [big_is]; omega
  have k : F_made [.int a, .int b] S = (if big ≤ (if q.num < 0 then -q.num else q.num) ∨ big ≤ (q.den : Int) then .exc "NoFraction" [] S else .ok (eQ q) S) := by
    by_cases hp : b > 0
    · rw [if_pos hp] at e
      by_cases c1 : big ≤ (if q.num < 0 then -q.num else q.num) <;> by_cases c2 : big ≤ (q.den : Int) <;>
        simp [F_made, d_made, runF, startP, endOf, dRet, dRetN, dIf, dIfS, dB, dBin, dUn, dV, dC, sE, asB, dSeq, dSet, dPar, dPar3, dAsg, dExpr, dAnd, dOr, dNot, bAnd, bOr, bNot, dTru, dCB, dCons, dNil, dTup, dLst, dChain, dPass, fCmpI, fIsN, gTp, gsCons, gsNil, gNm, mkTup, dSl, dPart, dNoPart, lim, iLt, iLe, iGt, iGe, h5, dv, hp, e, e_too_great, ix_q0, ix_q1, w_abs, c1, c2, dRaise]
    · rw [if_neg hp] at e
      by_cases c1 : big ≤ (if q.num < 0 then -q.num else q.num) <;> by_cases c2 : big ≤ (q.den : Int) <;>
        simp [F_made, d_made, runF, startP, endOf, dRet, dRetN, dIf, dIfS, dB, dBin, dUn, dV, dC, sE, asB, dSeq, dSet, dPar, dPar3, dAsg, dExpr, dAnd, dOr, dNot, bAnd, bOr, bNot, dTru, dCB, dCons, dNil, dTup, dLst, dChain, dPass, fCmpI, fIsN, gTp, gsCons, gsNil, gNm, mkTup, dSl, dPart, dNoPart, lim, iLt, iLe, iGt, iGe, h5, dv, hp, w_neg, e, e_too_great, ix_q0, ix_q1, w_abs, c1, c2, dRaise]
  rw [k]
  unfold rQ
  by_cases c1 : q.num.natAbs < 10 ^ 300 <;> by_cases c2 : q.den < 10 ^ 300 <;> simp [l1, l2, c1, c2]
/-! what is a fraction -/
theorem q_lim {q : Rat} (h : Ok q) : q.den ≤ 10 ^ 601 := by have := h.d; omega
theorem e_fraction {q : Rat} {S : Sto} (h : Ok q) : F_is_fraction [eQ q] S = .ok (.bl true) S := by
  have h1 : dLc false (iSeq (dV 0)) (cNm 1) (dYes) (dCB F_is_integer (dCons (dV 1) (dNil))) [1] [some (eQ q), none, none] S = .ok (.nl [.bl true, .bl true]) S := rfl
  have h2 : fAll [.nl [.bl true, .bl true]] S = .ok (.bl true) S := rfl
  have h3 : fIsi [eQ q, .ty "tuple"] S = .ok (.bl true) S := rfl
  have h4 : fLen [eQ q] S = .ok (.int 2) S := rfl
  have h5 := e_gcd (a := q.num) (b := q.den) (S := S) (fuel_big (by rw [Int.natAbs_natCast]; exact q_lim h))
  have h6 : ((Int.gcd q.num q.den : Nat) : Int) = 1 := by
    have := q.reduced
    have e : Int.gcd q.num q.den = 1 := this
    rw [e]; rfl
  have p : 0 < q.den := q.den_pos
  have l1 : (q.den : Int) < big := by rw [big_is]; have := h.d; omega
  have l2 : ¬ big ≤ (if q.num < 0 then -q.num else q.num) := by rw [big_is]; have := h.n; split <;> omega
  simp [F_is_fraction, d_is_fraction, runF, startP, endOf, dRet, dRetN, dIf, dIfS, dB, dBin, dUn, dV, dC, sE, asB, dSeq, dSet, dPar, dPar3, dAsg, dExpr, dAnd, dOr, dNot, bAnd, bOr, bNot, dTru, dCB, dCons, dNil, dTup, dLst, dChain, dPass, fCmpI, fIsN, gTp, gsCons, gsNil, gNm, mkTup, dSl, dPart, dNoPart, lim, iLt, iLe, iGt, iGe, h1, h2, h3, h4, h5, w_eq, truP, e_too_great, ix_q0, ix_q1, w_abs, p, l1, l2, h6]
theorem e_chkf {q : Rat} {S : Sto} (h : Ok q) : F_check_fraction [eQ q] S = .ok .non S := by
  simp [F_check_fraction, d_check_fraction, runF, startP, endOf, dRet, dRetN, dIf, dIfS, dB, dBin, dUn, dV, dC, sE, asB, dSeq, dSet, dPar, dPar3, dAsg, dExpr, dAnd, dOr, dNot, bAnd, bOr, bNot, dTru, dCB, dCons, dNil, dTup, dLst, dChain, dPass, fCmpI, fIsN, gTp, gsCons, gsNil, gNm, mkTup, dSl, dPart, dNoPart, lim, iLt, iLe, iGt, iGe, e_fraction h, truP]
theorem e_chk2 {x y : Rat} {S : Sto} (hx : Ok x) (hy : Ok y) : F_check_two [eQ x, eQ y] S = .ok .non S := by
  simp [F_check_two, d_check_two, runF, startP, endOf, dRet, dRetN, dIf, dIfS, dB, dBin, dUn, dV, dC, sE, asB, dSeq, dSet, dPar, dPar3, dAsg, dExpr, dAnd, dOr, dNot, bAnd, bOr, bNot, dTru, dCB, dCons, dNil, dTup, dLst, dChain, dPass, fCmpI, fIsN, gTp, gsCons, gsNil, gNm, mkTup, dSl, dPart, dNoPart, lim, iLt, iLe, iGt, iGe, e_chkf hx, e_chkf hy]
theorem dd_lim {x y : Rat} (hx : Ok x) (hy : Ok y) : ((x.den : Int) * (y.den : Int)).natAbs ≤ 10 ^ 601 := by
  have a := mul_abs hx.bd.dn hy.bd.dn
  exact Nat.le_trans a (by decide +kernel)
theorem sm_n {q : Rat} (h : Ok q) : q.num.natAbs ≤ 2 ^ 4000 := Nat.le_trans h.bd.n (by decide +kernel)
theorem sm_d {q : Rat} (h : Ok q) : (q.den : Int).natAbs ≤ 2 ^ 4000 := Nat.le_trans h.bd.dn (by decide +kernel)
theorem dn_lim {x y : Rat} (hx : Ok x) (hy : Ok y) : ((x.den : Int) * y.num).natAbs ≤ 10 ^ 601 := by
  have a := mul_abs hx.bd.dn hy.bd.n
  exact Nat.le_trans a (by decide +kernel)
theorem e_raw_less {x y : Rat} {S : Sto} (hx : Ok x) (hy : Ok y) : F_raw_less [eQ x, eQ y] S = rQ (x - y) S := by
  have m := e_made (a := x.num * y.den - y.num * x.den) (b := x.den * y.den) (S := S) (Int.mul_ne_zero (den0 x) (den0 y)) (dd_lim hx hy)
  rw [sub_is] at m
  have a1 := fun S => mul_sm (S := S) (sm_n hx) (sm_d hy)
  have a2 := fun S => mul_sm (S := S) (sm_n hy) (sm_d hx)
  have a3 := fun S => mul_sm (S := S) (sm_d hx) (sm_d hy)
  have a4 := fun S => mul_sm (S := S) (sm_n hx) (sm_n hy)
  have a5 := fun S => mul_sm (S := S) (sm_d hx) (sm_n hy)
  have ev : F_raw_less [eQ x, eQ y] S = endOf (sE (F_made [.int (x.num * y.den - y.num * x.den), .int (x.den * y.den)] S) [some (eQ x), some (eQ y)] fun v S1 => .rt v S1) := by
    simp [F_raw_less, d_raw_less, runF, startP, endOf, dRet, dRetN, dIf, dIfS, dB, dBin, dUn, dV, dC, sE, asB, dSeq, dSet, dPar, dPar3, dAsg, dExpr, dAnd, dOr, dNot, bAnd, bOr, bNot, dTru, dCB, dCons, dNil, dTup, dLst, dChain, dPass, fCmpI, fIsN, gTp, gsCons, gsNil, gNm, mkTup, dSl, dPart, dNoPart, lim, iLt, iLe, iGt, iGe, -sE, ix_q0, ix_q1, a1, a2, a3, a4, a5, w_add, w_sub]
  rw [ev, m]
  unfold rQ
  split <;> rfl
theorem e_raw_times {x y : Rat} {S : Sto} (hx : Ok x) (hy : Ok y) : F_raw_times [eQ x, eQ y] S = rQ (x * y) S := by
  have m := e_made (a := x.num * y.num) (b := x.den * y.den) (S := S) (Int.mul_ne_zero (den0 x) (den0 y)) (dd_lim hx hy)
  rw [mul_is] at m
  have a1 := fun S => mul_sm (S := S) (sm_n hx) (sm_d hy)
  have a2 := fun S => mul_sm (S := S) (sm_n hy) (sm_d hx)
  have a3 := fun S => mul_sm (S := S) (sm_d hx) (sm_d hy)
  have a4 := fun S => mul_sm (S := S) (sm_n hx) (sm_n hy)
  have a5 := fun S => mul_sm (S := S) (sm_d hx) (sm_n hy)
  have ev : F_raw_times [eQ x, eQ y] S = endOf (sE (F_made [.int (x.num * y.num), .int (x.den * y.den)] S) [some (eQ x), some (eQ y)] fun v S1 => .rt v S1) := by
    simp [F_raw_times, d_raw_times, runF, startP, endOf, dRet, dRetN, dIf, dIfS, dB, dBin, dUn, dV, dC, sE, asB, dSeq, dSet, dPar, dPar3, dAsg, dExpr, dAnd, dOr, dNot, bAnd, bOr, bNot, dTru, dCB, dCons, dNil, dTup, dLst, dChain, dPass, fCmpI, fIsN, gTp, gsCons, gsNil, gNm, mkTup, dSl, dPart, dNoPart, lim, iLt, iLe, iGt, iGe, -sE, ix_q0, ix_q1, a1, a2, a3, a4, a5, w_add, w_sub]
  rw [ev, m]
  unfold rQ
  split <;> rfl
theorem e_raw_at_most {x y : Rat} {S : Sto} (hx : Ok x) (hy : Ok y) : F_raw_at_most [eQ x, eQ y] S = .ok (.bl (decide (x ≤ y))) S := by
  have a1 := fun S => mul_sm (S := S) (sm_n hx) (sm_d hy)
  have a2 := fun S => mul_sm (S := S) (sm_n hy) (sm_d hx)
  have e : decide (x.num * (y.den : Int) ≤ y.num * (x.den : Int)) = decide (x ≤ y) := decide_eq_decide.mpr le_iff
  simp [F_raw_at_most, d_raw_at_most, runF, startP, endOf, dRet, dRetN, dIf, dIfS, dB, dBin, dUn, dV, dC, sE, asB, dSeq, dSet, dPar, dPar3, dAsg, dExpr, dAnd, dOr, dNot, bAnd, bOr, bNot, dTru, dCB, dCons, dNil, dTup, dLst, dChain, dPass, fCmpI, fIsN, gTp, gsCons, gsNil, gNm, mkTup, dSl, dPart, dNoPart, lim, iLt, iLe, iGt, iGe, ix_q0, ix_q1, a1, a2, e]
theorem e_raw_size {x : Rat} {S : Sto} : F_raw_size [eQ x] S = .ok (eQ x.abs) S := by
  have e : PV.tup [.int (if x.num < 0 then -x.num else x.num), .int x.den] = eQ x.abs := by
    unfold eQ
    rw [abs_num, abs_den]
  simp [F_raw_size, d_raw_size, runF, startP, endOf, dRet, dRetN, dIf, dIfS, dB, dBin, dUn, dV, dC, sE, asB, dSeq, dSet, dPar, dPar3, dAsg, dExpr, dAnd, dOr, dNot, bAnd, bOr, bNot, dTru, dCB, dCons, dNil, dTup, dLst, dChain, dPass, fCmpI, fIsN, gTp, gsCons, gsNil, gNm, mkTup, dSl, dPart, dNoPart, lim, iLt, iLe, iGt, iGe, ix_q0, ix_q1, w_abs, e]
theorem e_at_most {x y : Rat} {S : Sto} (hx : Ok x) (hy : Ok y) : F_at_most [eQ x, eQ y] S = .ok (.bl (decide (x ≤ y))) S := by
  have a := e_raw_at_most (S := S) hx hy
  simp [F_at_most, d_at_most, runF, startP, endOf, dRet, dRetN, dIf, dIfS, dB, dBin, dUn, dV, dC, sE, asB, dSeq, dSet, dPar, dPar3, dAsg, dExpr, dAnd, dOr, dNot, bAnd, bOr, bNot, dTru, dCB, dCons, dNil, dTup, dLst, dChain, dPass, fCmpI, fIsN, gTp, gsCons, gsNil, gNm, mkTup, dSl, dPart, dNoPart, lim, iLt, iLe, iGt, iGe, e_chk2 hx hy, a]
end G04
end
section
set_option Elab.async false
set_option linter.all false
set_option maxRecDepth 100000
set_option maxHeartbeats 4000000
namespace G04
open PySem PySem.Spec PyProof.Rows L2 Mi Ra
theorem pw_loop (b : Nat) : ∀ (xs : List PV) (f : Nat) (e t : Option PV) (S : Sto), f * b ^ xs.length ≤ 2 ^ 4000 → 0 < b → b ≤ 1000 →
    ∃ t', forP (gNm 3) (dSet 2 (dBin (fMul false) (dV 2) (dV 0))) xs [some (.int b), e, some (.int f), t] S = .nx [some (.int b), e, some (.int ((f * b ^ xs.length : Nat) : Int)), t'] S
  | [], f, e, t, S, _, _, _ => ⟨t, by simp [forP]⟩
  | x :: xs, f, e, t, S, h, hb, hb2 => by
    rw [List.length_cons, Nat.pow_succ] at h
    have e1 : f * (b ^ xs.length * b) = f * b * b ^ xs.length := by rw [Nat.mul_comm (b ^ xs.length) b, Nat.mul_assoc]
    rw [e1] at h
    have p : 0 < b ^ xs.length := Nat.pow_pos hb
    have hf : f * b ≤ 2 ^ 4000 := Nat.le_trans (Nat.le_mul_of_pos_right _ p) h
    have hf2 : f ≤ 2 ^ 4000 := Nat.le_trans (Nat.le_mul_of_pos_right _ hb) hf
    have m := fun S => mul_sm (i := (f : Int)) (j := (b : Int)) (S := S) (by simpa using hf2) (by rw [Int.natAbs_natCast]; exact Nat.le_trans hb2 (by decide +kernel))
    obtain ⟨t', ih⟩ := pw_loop b xs (f * b) e (some x) S h hb hb2
    refine ⟨t', ?_⟩
    rw [forP, List.length_cons, Nat.pow_succ, e1, ← ih]
    simp [runF, startP, endOf, dRet, dRetN, dIf, dIfS, dB, dBin, dUn, dV, dC, sE, asB, dSeq, dSet, dPar, dPar3, dAsg, dExpr, dAnd, dOr, dNot, bAnd, bOr, bNot, dTru, dCB, dCons, dNil, dTup, dLst, dChain, dPass, fCmpI, fIsN, gTp, gsCons, gsNil, gNm, mkTup, dSl, dPart, dNoPart, lim, iLt, iLe, iGt, iGe, m]
theorem e_power {b : Nat} {e : Int} {S : Sto} (hb : 0 < b) (hb2 : b ≤ 16) (he : e.natAbs ≤ 1000) : F_power [.int b, .int e] S = .ok (eQ (pw b e)) S := by
  have le : 1 * b ^ e.natAbs ≤ 2 ^ 4000 := by
    rw [Nat.one_mul]
    exact Nat.le_trans (Nat.pow_le_pow_left hb2 _) (Nat.le_trans (Nat.pow_le_pow_right (by decide) he) (by decide +kernel))
  obtain ⟨t', l⟩ := pw_loop b (Mi.upTo 0 e.natAbs) 1 (some (.int e)) none S (by simpa [Mi.upTo] using le) hb (by omega)
  have lu : (Mi.upTo 0 e.natAbs).length = e.natAbs := by simp [Mi.upTo]
  rw [lu, Nat.one_mul] at l
  have ab : (if e < 0 then -e else e) = (e.natAbs : Int) := by split <;> omega
  have r : iRange (dCons (dCB fAbs (dCons (dV 1) (dNil))) (dNil)) [some (.int b), some (.int e), some (.int 1), none] S = .ok (Mi.upTo 0 e.natAbs) S := by
    show (if -1000000 ≤ (if e < 0 then -e else e) ∧ (if e < 0 then -e else e) ≤ 1000000 then Res.ok (Mi.upTo 0 (if e < 0 then -e else e).toNat) S else .bad) = _
    rw [ab, if_pos (by omega)]
    rfl
  have l' : forP (gNm 3) (dSet 2 (dBin (fMul false) (dV 2) (dV 0))) (Mi.upTo 0 e.natAbs) [some (.int b), some (.int e), some (.int 1), none] S = _ := l
  by_cases h : 0 ≤ e
  · have p := pw_nn (b := b) h
    have q : PV.tup [.int ((b ^ e.natAbs : Nat) : Int), .int 1] = eQ (pw b e) := by unfold eQ; rw [p.1, p.2]; rfl
    rw [← q]
    simp [F_power, d_power, runF, startP, endOf, dRet, dRetN, dIf, dIfS, dB, dBin, dUn, dV, dC, sE, asB, dSeq, dSet, dPar, dPar3, dAsg, dExpr, dAnd, dOr, dNot, bAnd, bOr, bNot, dTru, dCB, dCons, dNil, dTup, dLst, dChain, dPass, fCmpI, fIsN, gTp, gsCons, gsNil, gNm, mkTup, dSl, dPart, dNoPart, lim, iLt, iLe, iGt, iGe, -forP, dFor, r, l', h]
  · have p := pw_ng (b := b) hb h
    have q : PV.tup [.int 1, .int ((b ^ e.natAbs : Nat) : Int)] = eQ (pw b e) := by unfold eQ; rw [p.1, p.2]
    rw [← q]
    simp [F_power, d_power, runF, startP, endOf, dRet, dRetN, dIf, dIfS, dB, dBin, dUn, dV, dC, sE, asB, dSeq, dSet, dPar, dPar3, dAsg, dExpr, dAnd, dOr, dNot, bAnd, bOr, bNot, dTru, dCB, dCons, dNil, dTup, dLst, dChain, dPass, fCmpI, fIsN, gTp, gsCons, gsNil, gNm, mkTup, dSl, dPart, dNoPart, lim, iLt, iLe, iGt, iGe, -forP, dFor, r, l', h]
end G04
end
section
set_option Elab.async false
set_option linter.all false
set_option maxRecDepth 100000
set_option maxHeartbeats 4000000
namespace G04
open PySem PySem.Spec PyProof.Rows L2 Mi Ra

/-! ### formats -/
theorem ix_f0 (f : Fm) (S : Sto) : fIx (eF f) (.int 0) S = .ok (.int f.b) S := rfl
theorem ix_f1 (f : Fm) (S : Sto) : fIx (eF f) (.int 1) S = .ok (.int f.k) S := rfl
theorem ix_f2 (f : Fm) (S : Sto) : fIx (eF f) (.int 2) S = .ok (.int f.lo) S := rfl
theorem ix_f3 (f : Fm) (S : Sto) : fIx (eF f) (.int 3) S = .ok (.int f.hi) S := rfl
def exC : EnP → Sto → Res Bool := (bNot (dB (dBin (fCmpI iLt) (dBin (fMul false) (dBin fIx (dV 8) (dC (.int 0))) (dBin fIx (dV 7) (dC (.int 1)))) (dBin (fMul false) (dBin fIx (dV 7) (dC (.int 0))) (dBin fIx (dV 8) (dC (.int 1)))))))
def exB : EnP → Sto → SR := (dSeq (dAug 6 fAddI (dC (.int 1))) (dSet 7 (dTup (dCons (dBin (fMul false) (dBin fIx (dV 7) (dC (.int 0))) (dV 2)) (dCons (dBin fIx (dV 7) (dC (.int 1))) (dNil))))))
abbrev sQ (x : Rat) (S : Sto) : PV := eQ x
theorem ex_cond {x : Rat} {p : Rat} {T M : Nat} {a0 a1 a2 a3 a4 a5 a6 : Option PV} {S : Sto} (hx : Ok x) (hM : 0 < M) (hT : (T : Rat) = p * (M : Rat)) (sM : M ≤ 2 ^ 4000) (sT : T ≤ 2 ^ 4000) :
    exC [a0, a1, a2, a3, a4, a5, a6, some (.tup [.int T, .int M]), some (eQ x)] S = .ok (!decide (x < p)) S := by
  have m1 := fun S => mul_sm (S := S) (i := x.num) (j := (M : Int)) (sm_n hx) (by simpa using sM)
  have m2 := fun S => mul_sm (S := S) (i := (T : Int)) (j := (x.den : Int)) (by simpa using sT) (sm_d hx)
  have e : decide (x.num * (M : Int) < (T : Int) * (x.den : Int)) = decide (x < p) := decide_eq_decide.mpr (pair_lt hM hT)
  simp [exC, runF, startP, endOf, dRet, dRetN, dIf, dIfS, dB, dBin, dUn, dV, dC, sE, asB, dSeq, dSet, dPar, dPar3, dAsg, dExpr, dAnd, dOr, dNot, bAnd, bOr, bNot, dTru, dCB, dCons, dNil, dTup, dLst, dChain, dPass, fCmpI, fIsN, gTp, gsCons, gsNil, gNm, mkTup, dSl, dPart, dNoPart, lim, iLt, iLe, iGt, iGe, ix_q0, ix_q1, ix_0, ix_1, m1, m2, e]
theorem ex_body {x : Rat} {T M b : Nat} {e : Int} {a0 a1 a3 a4 a5 : Option PV} {S : Sto} (sb : b ≤ 16) (sT : T ≤ 2 ^ 4000) :
    exB [a0, a1, some (.int b), a3, a4, a5, some (.int e), some (.tup [.int T, .int M]), some (eQ x)] S = .nx [a0, a1, some (.int b), a3, a4, a5, some (.int (e + 1)), some (.tup [.int ((T * b : Nat) : Int), .int M]), some (eQ x)] S := by
  have m2 := fun S => mul_sm (S := S) (i := (T : Int)) (j := (b : Int)) (by simpa using sT) (by rw [Int.natAbs_natCast]; exact Nat.le_trans sb (by decide +kernel))
  simp [exB, runF, startP, endOf, dRet, dRetN, dIf, dIfS, dB, dBin, dUn, dV, dC, sE, asB, dSeq, dSet, dPar, dPar3, dAsg, dExpr, dAnd, dOr, dNot, bAnd, bOr, bNot, dTru, dCB, dCons, dNil, dTup, dLst, dChain, dPass, fCmpI, fIsN, gTp, gsCons, gsNil, gNm, mkTup, dSl, dPart, dNoPart, lim, iLt, iLe, iGt, iGe, dAug, fAddI, ix_0, ix_1, m2]
theorem ex_loop {x : Rat} {b M : Nat} {k lo : Int} {a0 a1 a3 a4 a5 : Option PV} (hx : Ok x) (hb : 2 ≤ b) (hb2 : b ≤ 16) (hM : 0 < M) (sM : M ≤ 10 ^ 600) : ∀ (n : Nat) (e : Int) (T : Nat) (S : Sto), (1000 - (k + e)).toNat < n → lo ≤ e → (e = lo ∨ pw b (k + (e - 1)) ≤ x) → (T : Rat) = pw b (k + e) * (M : Rat) → T ≤ 10 ^ 1000 →
    ∃ e' T', whileP exC exB n [a0, a1, some (.int b), a3, a4, a5, some (.int e), some (.tup [.int T, .int M]), some (eQ x)] S = .nx [a0, a1, some (.int b), a3, a4, a5, some (.int e'), T', some (eQ x)] S ∧ lo ≤ e' ∧ x < pw b (k + e') ∧ (e' = lo ∨ pw b (k + (e' - 1)) ≤ x) := by
  intro n
  induction n with
  | zero => intro e T S h; omega
  | succ n ih =>
    intro e T S hn hlo h2 hT sT
    have sT2 : T ≤ 2 ^ 4000 := Nat.le_trans sT (by decide +kernel)
    have c := ex_cond (a0 := a0) (a1 := a1) (a2 := some (.int b)) (a3 := a3) (a4 := a4) (a5 := a5) (a6 := some (.int e)) (S := S) hx hM hT (Nat.le_trans sM (by decide +kernel)) sT2
    rw [whileP, c]
    by_cases q : x < pw b (k + e)
    · refine ⟨e, some (.tup [.int T, .int M]), ?_, hlo, q, h2⟩
      simp [sE, q]
    · have q2 : pw b (k + e) ≤ x := by grind
      have small : k + e < 1000 := by
        by_cases z : 1000 ≤ k + e
        · exact absurd (pw_big hb z hx) q
        · omega
      have hT' : ((T * b : Nat) : Rat) = pw b (k + (e + 1)) * (M : Rat) := by
        have : k + (e + 1) = k + e + 1 := by omega
        rw [this, pw_succ (by omega), Rat.natCast_mul, hT]
        grind
      have sT' : T * b ≤ 10 ^ 1000 := by
        have l1 : (T : Rat) ≤ x * (M : Rat) := by
          rw [hT]
          exact Rat.mul_le_mul_of_nonneg_right q2 (nat_le.mpr (Nat.zero_le _))
        have l2 : x * (M : Rat) ≤ ((10 ^ 300 : Nat) : Rat) * (M : Rat) := Rat.mul_le_mul_of_nonneg_right (Rat.le_of_lt hx.lt) (nat_le.mpr (Nat.zero_le _))
        have l3 : (T : Rat) ≤ ((10 ^ 300 * M : Nat) : Rat) := by
          rw [Rat.natCast_mul]
          exact Rat.le_trans l1 l2
        have l4 := nat_le.mp l3
        refine Nat.le_trans (Nat.mul_le_mul (Nat.le_trans l4 (Nat.mul_le_mul (Nat.le_refl _) sM)) hb2) (by decide +kernel)
      obtain ⟨e', T', h1, r⟩ := ih (e + 1) (T * b) S (by omega) (by omega) (Or.inr (by rw [Int.add_sub_cancel]; exact q2)) hT' sT'
      refine ⟨e', T', ?_, r⟩
      have b1 := ex_body (x := x) (T := T) (M := M) (b := b) (e := e) (a0 := a0) (a1 := a1) (a3 := a3) (a4 := a4) (a5 := a5) (S := S) hb2 sT2
      simp only [sE, decide_eq_false q, Bool.not_false, if_true, b1, h1]
theorem pw_parts {b : Nat} (hb : 0 < b) (e : Int) : ∃ M : Nat, 0 < M ∧ M = (pw b e).den ∧ ∃ T : Nat, (pw b e).num = (T : Int) ∧ (T : Rat) = pw b e * (M : Rat) := by
  have p := pw_pos hb e
  have n : 0 ≤ (pw b e).num := num_nn.mpr (Rat.le_of_lt p)
  refine ⟨(pw b e).den, (pw b e).den_pos, rfl, (pw b e).num.toNat, by omega, ?_⟩
  rw [← num_is, ← Rat.intCast_natCast]
  congr 1
  omega
theorem pow_mono {b : Nat} (hb : 1 ≤ b) {m n : Nat} (h : m ≤ n) : b ^ m ≤ b ^ n := Nat.pow_le_pow_right hb h
theorem pw_num {b : Nat} (hb : 0 < b) (e : Int) : (pw b e).num.natAbs ≤ b ^ e.natAbs ∧ (pw b e).den ≤ b ^ e.natAbs := by
  have p := Nat.pow_pos (n := e.natAbs) hb
  by_cases h : 0 ≤ e
  · have := pw_nn (b := b) h
    rw [this.1, this.2, Int.natAbs_natCast]
    omega
  · have := pw_ng (b := b) hb h
    rw [this.1]
    have := this.2
    omega
theorem sh_le {f : Fm} (hf : FmOk f) {n : Nat} (h : n ≤ f.k.natAbs + max f.lo.natAbs f.hi.natAbs) : f.b ^ n ≤ 10 ^ 140 := Nat.le_trans (pow_mono (by have := hf.b0; omega) h) hf.sh
theorem e_exponent {f : Fm} {x : Rat} {S : Sto} (hf : FmOk f) (hx : Ok x) : F_exponent_at [eF f, eQ x] S = .ok (.int (exO f x)) S := by
  have k0 := hf.k0
  have k1 := hf.k1
  have l0 := hf.l0
  have l1 := hf.l1
  have hb : 0 < f.b := by have := hf.b0; omega
  have ep := fun S => e_power (b := f.b) (e := f.k + f.lo) (S := S) hb hf.b1 (by omega)
  obtain ⟨M, hM, eM, T, eT, hT⟩ := pw_parts hb (f.k + f.lo)
  have bd := pw_num hb (f.k + f.lo)
  have bb : f.b ^ (f.k + f.lo).natAbs ≤ 10 ^ 140 := sh_le hf (by omega)
  have eq : eQ (pw f.b (f.k + f.lo)) = .tup [.int T, .int M] := by unfold eQ; rw [eT, eM]
  rw [eq] at ep
  have sM : M ≤ 10 ^ 600 := by rw [eM]; exact Nat.le_trans bd.2 (Nat.le_trans bb (by decide +kernel))
  have sT : T ≤ 10 ^ 1000 := by
    have := bd.1
    rw [eT, Int.natAbs_natCast] at this
    exact Nat.le_trans this (Nat.le_trans bb (by decide +kernel))
  obtain ⟨e', T', h1, h2, h3, h4⟩ := ex_loop (x := x.abs) (b := f.b) (M := M) (k := f.k) (lo := f.lo) (a0 := some (eF f)) (a1 := some (eQ x)) (a3 := some (.int f.k)) (a4 := some (.int f.lo)) (a5 := some (.int f.hi)) hx.abs hf.b0 hf.b1 hM sM fuel f.lo T S
    (Nat.lt_of_le_of_lt (show _ ≤ 1400 by omega) (fuel_big (n := 1400) (by decide +kernel))) (Int.le_refl _) (.inl rfl) hT sT
  have ex : exO f x = e' := exO_eq hf ⟨h2, h3, h4⟩
  have dd : d_exponent_at = dSeq (dAsg (dV 0) (gTp 4 (gsCons (gNm 2) (gsCons (gNm 3) (gsCons (gNm 4) (gsCons (gNm 5) (gsNil))))))) (dSeq (dPar 6 7 (dCons (dV 4) (dCons (dCB F_power (dCons (dV 2) (dCons (dBin (fAdd false) (dV 3) (dV 4)) (dNil)))) (dNil)))) (dSeq (dSet 8 (dCB F_raw_size (dCons (dV 1) (dNil)))) (dSeq (whileP exC exB fuel) (dRet (dV 6))))) := rfl
  unfold eF at h1
  simp [F_exponent_at, dd, runF, startP, endOf, dRet, dRetN, dIf, dIfS, dB, dBin, dUn, dV, dC, sE, asB, dSeq, dSet, dPar, dPar3, dAsg, dExpr, dAnd, dOr, dNot, bAnd, bOr, bNot, dTru, dCB, dCons, dNil, dTup, dLst, dChain, dPass, fCmpI, fIsN, gTp, gsCons, gsNil, gNm, mkTup, dSl, dPart, dNoPart, lim, iLt, iLe, iGt, iGe, e_raw_size, w_add, ep, eF, h1, ex]
end G04
end
section
set_option Elab.async false
set_option linter.all false
set_option maxRecDepth 100000
set_option maxHeartbeats 4000000
namespace G04
open PySem PySem.Spec PyProof.Rows L2 Mi Ra

/-! ### gaps, rounding -/
theorem b_pos {f : Fm} (hf : FmOk f) : 0 < f.b := by have := hf.b0; omega
theorem ex_big {f : Fm} {x : Rat} (hf : FmOk f) (hx : Ok x) : -400 ≤ exO f x ∧ exO f x ≤ 1000 := by
  have h := exO_is hf hx
  have l0 := hf.l0
  have l1 := hf.l1
  have k0 := hf.k0
  refine ⟨by have := h.1; omega, ?_⟩
  rcases h.2.2 with q | q
  · omega
  · by_cases z : exO f x ≤ 1000
    · exact z
    · have := pw_big hf.b0 (e := f.k + (exO f x - 1)) (by omega) hx.abs
      grind
theorem pw_ok {f : Fm} (hf : FmOk f) {e : Int} (h1 : f.lo ≤ e) (h2 : pw f.b e < ((10 ^ 300 : Nat) : Rat)) : Ok (pw f.b e) ∧ (pw f.b e).den ≤ f.b ^ f.lo.natAbs := by
  have hb := b_pos hf
  by_cases h : 0 ≤ e
  · have p := pw_nn (b := f.b) h
    have e1 : pw f.b e = ((f.b ^ e.natAbs : Nat) : Rat) := by unfold pw; rw [if_pos h]
    rw [e1, Rat.natCast_lt_natCast] at h2
    have := Nat.pow_pos (n := f.lo.natAbs) hb
    refine ⟨⟨by rw [p.1, Int.natAbs_natCast]; exact h2, by rw [p.2]; decide +kernel⟩, by rw [p.2]; omega⟩
  · have p := pw_ng hb h
    have l : f.b ^ e.natAbs ≤ f.b ^ f.lo.natAbs := pow_mono hb (by omega)
    have l2 : f.b ^ f.lo.natAbs ≤ 10 ^ 140 := sh_le hf (by omega)
    have l3 : (10 : Nat) ^ 140 < 10 ^ 300 := by decide +kernel
    have := p.2
    refine ⟨⟨by rw [p.1]; decide +kernel, by omega⟩, by omega⟩
theorem gap_ok {f : Fm} {x : Rat} (hf : FmOk f) (hx : Ok x) : Ok (gapR f x) ∧ (gapR f x).den ≤ f.b ^ f.lo.natAbs := by
  have h := exO_is hf hx
  have hb := b_pos hf
  have k0 := hf.k0
  refine pw_ok hf h.1 ?_
  rcases h.2.2 with q | q
  · rw [q]
    have a := pw_mono (b := f.b) hb (show f.lo ≤ ((f.lo.natAbs : Nat) : Int) by omega)
    have e : pw f.b ((f.lo.natAbs : Nat) : Int) = ((f.b ^ f.lo.natAbs : Nat) : Rat) := by unfold pw; rw [if_pos (by omega)]; rfl
    have l2 : f.b ^ f.lo.natAbs ≤ 10 ^ 140 := sh_le hf (by omega)
    have l3 : ((f.b ^ f.lo.natAbs : Nat) : Rat) < ((10 ^ 300 : Nat) : Rat) := Rat.natCast_lt_natCast.mpr (Nat.lt_of_le_of_lt l2 (by decide +kernel))
    rw [e] at a
    grind
  · have a := pw_mono (b := f.b) hb (show exO f x ≤ f.k + (exO f x - 1) by omega)
    have := hx.abs.lt
    grind
theorem e_raw_gap {f : Fm} {x : Rat} {S : Sto} (hf : FmOk f) (hx : Ok x) : F_raw_gap [eF f, eQ x] S = .ok (eQ (gapR f x)) S := by
  have p := ex_big hf hx
  have a := fun S => e_power (b := f.b) (e := exO f x) (S := S) (b_pos hf) hf.b1 (by omega)
  simp [F_raw_gap, d_raw_gap, runF, startP, endOf, dRet, dRetN, dIf, dIfS, dB, dBin, dUn, dV, dC, sE, asB, dSeq, dSet, dPar, dPar3, dAsg, dExpr, dAnd, dOr, dNot, bAnd, bOr, bNot, dTru, dCB, dCons, dNil, dTup, dLst, dChain, dPass, fCmpI, fIsN, gTp, gsCons, gsNil, gNm, mkTup, dSl, dPart, dNoPart, lim, iLt, iLe, iGt, iGe, ix_f0, e_exponent hf hx, a]
  rfl
theorem q_nat (n : Nat) : PV.tup [.int (n : Int), .int 1] = eQ (n : Rat) := by unfold eQ; rw [Rat.num_natCast, Rat.den_natCast]; rfl
theorem q_int (n : Int) : PV.tup [.int n, .int 1] = eQ (n : Rat) := by unfold eQ; rw [Rat.num_intCast, Rat.den_intCast]; rfl
theorem pw_bd {f : Fm} (hf : FmOk f) {e : Int} (h : e.natAbs ≤ f.k.natAbs + max f.lo.natAbs f.hi.natAbs) : Bd (10 ^ 140) (pw f.b e) := by
  have b := pw_num (b_pos hf) e
  have l := sh_le hf h
  exact ⟨Nat.le_trans b.1 l, Nat.le_trans b.2 l⟩
theorem nat_bd {n k : Nat} (h : n ≤ k) (hk : 1 ≤ k) : Bd k (n : Rat) := ⟨by rw [Rat.num_natCast, Int.natAbs_natCast]; exact h, by rw [Rat.den_natCast]; exact hk⟩
theorem most_bd {f : Fm} (hf : FmOk f) : Bd (10 ^ 140 * 10 ^ 140) (mostR f) := by
  have l := sh_le hf (n := f.k.toNat) (by omega)
  exact Bd.mul (nat_bd (by omega) (by decide +kernel)) (pw_bd hf (by omega))
theorem most_ok {f : Fm} (hf : FmOk f) : Ok (mostR f) := (most_bd hf).ok (by decide +kernel)
theorem e_raw_most {f : Fm} {S : Sto} (hf : FmOk f) : F_raw_most [eF f] S = .ok (eQ (mostR f)) S := by
  have hb := b_pos hf
  have k0 := hf.k0
  have k1 := hf.k1
  have h0 := hf.h0
  have h1 := hf.h1
  have a1 := fun S => e_power (b := f.b) (e := f.k) (S := S) hb hf.b1 (by omega)
  have a2 := fun S => e_power (b := f.b) (e := f.hi) (S := S) hb hf.b1 (by omega)
  have p := pw_nn (b := f.b) (e := f.k) (by omega)
  have ek : f.k.natAbs = f.k.toNat := by omega
  have pp := Nat.pow_pos (n := f.k.toNat) hb
  have e1 : ((f.b ^ f.k.natAbs : Nat) : Int) - 1 = ((f.b ^ f.k.toNat - 1 : Nat) : Int) := by rw [ek]; omega
  have l := sh_le hf (n := f.k.toNat) (by omega)
  have o1 : Ok ((f.b ^ f.k.toNat - 1 : Nat) : Rat) := (nat_bd (k := 10 ^ 140) (by omega) (by decide +kernel)).ok (by decide +kernel)
  have o2 : Ok (pw f.b f.hi) := (pw_bd hf (by omega)).ok (by decide +kernel)
  have t := fun S => e_raw_times (S := S) o1 o2
  have r := fun S => rQ_ok (S := S) (most_ok hf)
  simp only [mostR] at r
  simp [F_raw_most, d_raw_most, runF, startP, endOf, dRet, dRetN, dIf, dIfS, dB, dBin, dUn, dV, dC, sE, asB, dSeq, dSet, dPar, dPar3, dAsg, dExpr, dAnd, dOr, dNot, bAnd, bOr, bNot, dTru, dCB, dCons, dNil, dTup, dLst, dChain, dPass, fCmpI, fIsN, gTp, gsCons, gsNil, gNm, mkTup, dSl, dPart, dNoPart, lim, iLt, iLe, iGt, iGe, eF, -Int.natCast_pow, a1, a2, ix_q0, p.1, w_sub, e1, q_nat, t, r]
  rfl
end G04
end
section
set_option Elab.async false
set_option linter.all false
set_option maxRecDepth 100000
set_option maxHeartbeats 4000000
namespace G04
open PySem PySem.Spec PyProof.Rows L2 Mi Ra
/-! ### rounding -/
theorem floor_is {a b : Int} (hb : 0 < b) : (Rat.divInt a b).floor = a.fdiv b := by
  have p : (0 : Rat) < (b : Rat) := by
    have := (Rat.intCast_lt_intCast (a := 0) (b := b)).mpr hb
    exact this
  have e : (Rat.divInt a b) * (b : Rat) = (a : Rat) := by rw [div_eq]; grind
  have f := Int.mul_fdiv_add_fmod a b
  have m0 := Int.fmod_nonneg_of_pos a hb
  have m1 := Int.fmod_lt_of_pos a hb
  have c1 : ((a.fdiv b : Int) : Rat) * (b : Rat) ≤ (a : Rat) := by
    rw [← Rat.intCast_mul, int_le, Int.mul_comm]
    omega
  have c2 : (a : Rat) < ((a.fdiv b + 1 : Int) : Rat) * (b : Rat) := by
    rw [← Rat.intCast_mul, Rat.intCast_lt_intCast, Int.mul_comm, Int.mul_add]
    omega
  rw [← e] at c1 c2
  refine Int.le_antisymm ?_ ?_
  · have := Rat.floor_lt_iff.mpr ((Rat.mul_lt_mul_right p).mp c2)
    omega
  · exact Rat.le_floor_iff.mpr (Rat.le_of_mul_le_mul_right c1 p)
theorem near_cmp {a b : Int} (hb : 0 < b) : (2 * (a - (a.fdiv b) * b) = b ↔ 2 * (Rat.divInt a b - ((Rat.divInt a b).floor : Rat)) = 1) ∧ (2 * (a - (a.fdiv b) * b) < b ↔ 2 * (Rat.divInt a b - ((Rat.divInt a b).floor : Rat)) < 1) := by
  rw [floor_is hb]
  have p : (0 : Rat) < (b : Rat) := by
    have := (Rat.intCast_lt_intCast (a := 0) (b := b)).mpr hb
    exact this
  have e : (a : Rat) = (Rat.divInt a b) * (b : Rat) := by rw [div_eq]; grind
  have e2 : ((2 * (a - (a.fdiv b) * b) : Int) : Rat) = 2 * (Rat.divInt a b - ((a.fdiv b : Int) : Rat)) * (b : Rat) := by
    rw [Rat.intCast_mul, Rat.intCast_sub, Rat.intCast_mul, e]
    have : ((2 : Int) : Rat) = 2 := rfl
    rw [this]
    grind
  have c1 : (b : Rat) = 1 * (b : Rat) := (Rat.one_mul _).symm
  constructor
  · rw [← Rat.intCast_inj, e2]
    constructor
    · intro h
      have n : (b : Rat) ≠ 0 := by grind
      generalize 2 * (Rat.divInt a b - ((a.fdiv b : Int) : Rat)) = t at h
      grind
    · intro h; rw [h]; grind
  · rw [← Rat.intCast_lt_intCast, e2]
    conv => lhs; rhs; rw [c1]
    exact Rat.mul_lt_mul_right p
def eY : Wy → PV
  | .near => .str "near"
  | .down => .str "down"
  | .up => .str "up"
  | .zero => .str "zero"
theorem ix_t0 {a b : Int} {S : Sto} : fIx (.tup [.int a, .int b]) (.int 0) S = .ok (.int a) S := rfl
theorem ix_t1 {a b : Int} {S : Sto} : fIx (.tup [.int a, .int b]) (.int 1) S = .ok (.int b) S := rfl
theorem fdiv_abs2 {a b : Int} (hb : 0 < b) : (a.fdiv b).natAbs ≤ a.natAbs + 1 := by
  have f := Int.mul_fdiv_add_fmod a b
  have m0 := Int.fmod_nonneg_of_pos a hb
  have m1 := Int.fmod_lt_of_pos a hb
  generalize a.fdiv b = q at *
  generalize a.fmod b = r at *
  by_cases h : 0 ≤ q
  · have := Int.mul_le_mul_of_nonneg_right (show 1 ≤ b by omega) h
    omega
  · have := Int.mul_le_mul_of_nonpos_right (show 1 ≤ b by omega) (show q + 1 ≤ 0 by omega)
    rw [Int.mul_add] at this
    omega
theorem e_near_integer {a b : Int} {S : Sto} (hb : 0 < b) (sa : a.natAbs ≤ 2 ^ 3000) (sb : b.natAbs ≤ 2 ^ 3000) : F_near_integer [.tup [.int a, .int b]] S = .ok (.int (nearI (Rat.divInt a b))) S := by
  have nc := near_cmp (a := a) hb
  have fl := floor_is (a := a) hb
  have d := fun i S => div_sm (S := S) (i := i) hb (Nat.le_trans sb (by decide +kernel))
  have m1 := fun S => mul_sm (S := S) (i := a.fdiv b) (j := b) (Nat.le_trans (fdiv_abs2 hb) (Nat.le_trans (Nat.add_le_add_right sa 1) (by decide +kernel))) (Nat.le_trans sb (by decide +kernel))
  have m0 := Int.fmod_nonneg_of_pos a hb
  have m1' := Int.fmod_lt_of_pos a hb
  have f := Int.mul_fdiv_add_fmod a b
  have ef : a - a.fdiv b * b = a.fmod b := by rw [Int.mul_comm]; omega
  have m2 := fun S => mul_sm (S := S) (i := 2) (j := a - a.fdiv b * b) (by decide +kernel) (by rw [ef]; exact Nat.le_trans (show _ ≤ b.natAbs by omega) (Nat.le_trans sb (by decide +kernel)))
  have md := fun S => mod_sm (S := S) (i := a.fdiv b) (j := 2) (by decide)
  have me : ((a.fdiv b).fmod 2 = 0) ↔ (a.fdiv b) % 2 = 0 := by rw [Int.fmod_eq_emod_of_nonneg _ (by decide)]
  unfold nearI
  rw [fl] at nc ⊢
  by_cases c1 : 2 * (a - (a.fdiv b) * b) = b
  · rw [if_pos (nc.1.mp c1)]
    have c1' : ∀ S, fEq false (.int (2 * (a - a.fdiv b * b))) (.int b) S = .ok (.bl true) S := fun S => by rw [w_eq, c1]; simp
    by_cases c2 : (a.fdiv b) % 2 = 0
    · rw [if_pos c2]
      simp [F_near_integer, d_near_integer, runF, startP, endOf, dRet, dRetN, dIf, dIfS, dB, dBin, dUn, dV, dC, sE, asB, dSeq, dSet, dPar, dPar3, dAsg, dExpr, dAnd, dOr, dNot, bAnd, bOr, bNot, dTru, dCB, dCons, dNil, dTup, dLst, dChain, dPass, fCmpI, fIsN, gTp, gsCons, gsNil, gNm, mkTup, dSl, dPart, dNoPart, lim, iLt, iLe, iGt, iGe, ix_t0, ix_t1, d, m1, m2, md, w_sub, c1', truP, w_eq, me, c2]
    · rw [if_neg c2]
      simp [F_near_integer, d_near_integer, runF, startP, endOf, dRet, dRetN, dIf, dIfS, dB, dBin, dUn, dV, dC, sE, asB, dSeq, dSet, dPar, dPar3, dAsg, dExpr, dAnd, dOr, dNot, bAnd, bOr, bNot, dTru, dCB, dCons, dNil, dTup, dLst, dChain, dPass, fCmpI, fIsN, gTp, gsCons, gsNil, gNm, mkTup, dSl, dPart, dNoPart, lim, iLt, iLe, iGt, iGe, ix_t0, ix_t1, d, m1, m2, md, w_sub, w_add, c1', truP, w_eq, me, c2]
  · rw [if_neg (fun z => c1 (nc.1.mpr z))]
    have c1' : ∀ S, fEq false (.int (2 * (a - a.fdiv b * b))) (.int b) S = .ok (.bl false) S := fun S => by rw [w_eq]; simp [c1]
    by_cases c2 : 2 * (a - (a.fdiv b) * b) < b
    · rw [if_pos (nc.2.mp c2)]
      simp [F_near_integer, d_near_integer, runF, startP, endOf, dRet, dRetN, dIf, dIfS, dB, dBin, dUn, dV, dC, sE, asB, dSeq, dSet, dPar, dPar3, dAsg, dExpr, dAnd, dOr, dNot, bAnd, bOr, bNot, dTru, dCB, dCons, dNil, dTup, dLst, dChain, dPass, fCmpI, fIsN, gTp, gsCons, gsNil, gNm, mkTup, dSl, dPart, dNoPart, lim, iLt, iLe, iGt, iGe, ix_t0, ix_t1, d, m1, m2, md, w_sub, c1', truP, c2]
    · rw [if_neg (fun z => c2 (nc.2.mpr z))]
      simp [F_near_integer, d_near_integer, runF, startP, endOf, dRet, dRetN, dIf, dIfS, dB, dBin, dUn, dV, dC, sE, asB, dSeq, dSet, dPar, dPar3, dAsg, dExpr, dAnd, dOr, dNot, bAnd, bOr, bNot, dTru, dCB, dCons, dNil, dTup, dLst, dChain, dPass, fCmpI, fIsN, gTp, gsCons, gsNil, gNm, mkTup, dSl, dPart, dNoPart, lim, iLt, iLe, iGt, iGe, ix_t0, ix_t1, d, m1, m2, md, w_sub, w_add, c1', truP, c2]
theorem ceil_is {a b : Int} (hb : 0 < b) : (-(Rat.divInt a b)).floor = (-a).fdiv b := by
  rw [← floor_is hb]
  congr 1
  rw [div_eq, div_eq, Rat.intCast_neg]
  grind
theorem div_sgn {a b : Int} (hb : 0 < b) : 0 ≤ Rat.divInt a b ↔ 0 ≤ a := by
  have p : (0 : Rat) < (b : Rat) := by
    have := (Rat.intCast_lt_intCast (a := 0) (b := b)).mpr hb
    exact this
  have e : (Rat.divInt a b) * (b : Rat) = (a : Rat) := by rw [div_eq]; grind
  have z : (0 : Int) ≤ a ↔ (0 : Rat) ≤ (a : Rat) := (int_le (a := 0) (b := a)).symm
  rw [z, ← e]
  constructor
  · intro h; exact Rat.mul_nonneg h (Rat.le_of_lt p)
  · intro h
    by_cases q : 0 ≤ Rat.divInt a b
    · exact q
    · have := Rat.mul_pos (show 0 < -(Rat.divInt a b) by grind) p
      grind
theorem e_integer_by {w : Wy} {a b : Int} {S : Sto} (hb : 0 < b) (sa : a.natAbs ≤ 2 ^ 3000) (sb : b.natAbs ≤ 2 ^ 3000) : F_integer_by [eY w, .tup [.int a, .int b]] S = .ok (.int (rnd w (Rat.divInt a b))) S := by
  have d := fun i S => div_sm (S := S) (i := i) hb (Nat.le_trans sb (by decide +kernel))
  have nr := fun S => e_near_integer (S := S) hb sa sb
  have fl := floor_is (a := a) hb
  have cl := ceil_is (a := a) hb
  have sg := div_sgn (a := a) hb
  cases w with
  | near => simp [F_integer_by, d_integer_by, runF, startP, endOf, dRet, dRetN, dIf, dIfS, dB, dBin, dUn, dV, dC, sE, asB, dSeq, dSet, dPar, dPar3, dAsg, dExpr, dAnd, dOr, dNot, bAnd, bOr, bNot, dTru, dCB, dCons, dNil, dTup, dLst, dChain, dPass, fCmpI, fIsN, gTp, gsCons, gsNil, gNm, mkTup, dSl, dPart, dNoPart, lim, iLt, iLe, iGt, iGe, ix_t0, ix_t1, d, eY, nr, rnd]
  | down => simp [F_integer_by, d_integer_by, runF, startP, endOf, dRet, dRetN, dIf, dIfS, dB, dBin, dUn, dV, dC, sE, asB, dSeq, dSet, dPar, dPar3, dAsg, dExpr, dAnd, dOr, dNot, bAnd, bOr, bNot, dTru, dCB, dCons, dNil, dTup, dLst, dChain, dPass, fCmpI, fIsN, gTp, gsCons, gsNil, gNm, mkTup, dSl, dPart, dNoPart, lim, iLt, iLe, iGt, iGe, ix_t0, ix_t1, d, eY, rnd, fl]
  | up =>
    simp [F_integer_by, d_integer_by, runF, startP, endOf, dRet, dRetN, dIf, dIfS, dB, dBin, dUn, dV, dC, sE, asB, dSeq, dSet, dPar, dPar3, dAsg, dExpr, dAnd, dOr, dNot, bAnd, bOr, bNot, dTru, dCB, dCons, dNil, dTup, dLst, dChain, dPass, fCmpI, fIsN, gTp, gsCons, gsNil, gNm, mkTup, dSl, dPart, dNoPart, lim, iLt, iLe, iGt, iGe, ix_t0, ix_t1, d, eY, rnd, cl, w_neg]
    exact (floor_is hb).symm
  | zero =>
    by_cases c : 0 ≤ a
    · simp [F_integer_by, d_integer_by, runF, startP, endOf, dRet, dRetN, dIf, dIfS, dB, dBin, dUn, dV, dC, sE, asB, dSeq, dSet, dPar, dPar3, dAsg, dExpr, dAnd, dOr, dNot, bAnd, bOr, bNot, dTru, dCB, dCons, dNil, dTup, dLst, dChain, dPass, fCmpI, fIsN, gTp, gsCons, gsNil, gNm, mkTup, dSl, dPart, dNoPart, lim, iLt, iLe, iGt, iGe, ix_t0, ix_t1, d, eY, rnd, fl, sg, c]
    · simp [F_integer_by, d_integer_by, runF, startP, endOf, dRet, dRetN, dIf, dIfS, dB, dBin, dUn, dV, dC, sE, asB, dSeq, dSet, dPar, dPar3, dAsg, dExpr, dAnd, dOr, dNot, bAnd, bOr, bNot, dTru, dCB, dCons, dNil, dTup, dLst, dChain, dPass, fCmpI, fIsN, gTp, gsCons, gsNil, gNm, mkTup, dSl, dPart, dNoPart, lim, iLt, iLe, iGt, iGe, ix_t0, ix_t1, d, eY, rnd, cl, w_neg, sg, c]
      exact (floor_is hb).symm
theorem sm_dim {f : Fm} {x : Rat} (hf : FmOk f) (hx : Ok x) : (x.num * ((gapR f x).den : Int)).natAbs ≤ 2 ^ 3000 ∧ ((x.den : Int) * (gapR f x).num).natAbs ≤ 2 ^ 3000 := by
  have g := (gap_ok hf hx).1
  exact ⟨Nat.le_trans (mul_abs hx.bd.n g.bd.dn) (by decide +kernel), Nat.le_trans (mul_abs hx.bd.dn g.bd.n) (by decide +kernel)⟩
/-- how many gaps there are at most in a number -/
theorem rnd_most {f : Fm} {w : Wy} {x : Rat} (hf : FmOk f) (hx : Ok x) : (rnd w (x / gapR f x)).natAbs ≤ 10 ^ 140 := by
  have h := exO_is hf hx
  have l := h.2.1
  rw [pw_k hf] at l
  have b := rnd_abs (w := w) (gap_pos hf x) (Rat.le_of_lt l)
  have l := sh_le hf (n := f.k.toNat) (by have := hf.k0; omega)
  omega
theorem int_bd {n : Int} {k : Nat} (h : n.natAbs ≤ k) (hk : 1 ≤ k) : Bd k (n : Rat) := ⟨by rw [Rat.num_intCast]; exact h, by rw [Rat.den_intCast]; exact hk⟩
theorem cmp_most {n : Nat} {g M : Rat} : (M.num * (g.den : Int) < (n : Int) * g.num * (M.den : Int)) ↔ ¬ ((n : Rat) * g ≤ M) := by
  have d1 : (0 : Rat) < (g.den : Rat) := by have := Rat.natCast_lt_natCast.mpr g.den_pos; exact this
  have d2 : (0 : Rat) < (M.den : Rat) := by have := Rat.natCast_lt_natCast.mpr M.den_pos; exact this
  have p : (0 : Rat) < (g.den : Rat) * (M.den : Rat) := Rat.mul_pos d1 d2
  have e1 : ((M.num * (g.den : Int) : Int) : Rat) = M * ((g.den : Rat) * (M.den : Rat)) := by
    rw [Rat.intCast_mul, num_is, Rat.intCast_natCast]; grind
  have e2 : (((n : Int) * g.num * (M.den : Int) : Int) : Rat) = ((n : Rat) * g) * ((g.den : Rat) * (M.den : Rat)) := by
    rw [Rat.intCast_mul, Rat.intCast_mul, num_is, Rat.intCast_natCast, Rat.intCast_natCast]; grind
  rw [← Rat.intCast_lt_intCast, e1, e2, Rat.mul_lt_mul_right p]
  grind
theorem abs_cast (n : Int) : ((n : Rat)).abs = ((n.natAbs : Nat) : Rat) := by
  rw [abs_is', ← Rat.intCast_natCast]
  have z : ((n : Rat) < 0) ↔ n < 0 := Rat.intCast_lt_intCast (a := n) (b := 0)
  by_cases h : n < 0
  · rw [if_pos (z.mpr h), ← Rat.intCast_neg]; congr 1; omega
  · rw [if_neg (fun q => h (z.mp q))]; congr 1; omega
theorem den_dvd {a b : Int} (hb : 0 < b) : ((Rat.divInt a b).den : Int) ∣ b := by
  rw [den_div hb]
  exact ⟨(Int.gcd a b : Nat), (Int.fdiv_mul_cancel (Int.gcd_dvd_right a b)).symm⟩
theorem mul_den (n : Int) (g : Rat) : ((n : Rat) * g).den ∣ g.den := by
  have e := mul_is (n : Rat) g
  rw [Rat.den_intCast, Int.natCast_one, Int.one_mul] at e
  rw [← e]
  exact Int.natCast_dvd_natCast.mp (den_dvd (den_p g))
/-- numbers of the format are short -/
theorem num_bd {f : Fm} {r : Rat} {B : Nat} (hf : FmOk f) (hB : f.b ^ (f.k.natAbs + max f.lo.natAbs f.hi.natAbs) ≤ B) (h : IsNum f r) (ok : Ok r) : r.num.natAbs ≤ B * B ∧ r.den ≤ B := by
  have hb := b_pos hf
  have gd := (gap_ok hf ok).2
  obtain ⟨l, m, e⟩ := h
  have dd : r.den ∣ (gapR f r).den := by
    have := mul_den m (gapR f r)
    rw [← e] at this
    exact this
  have d1 : r.den ≤ (gapR f r).den := Nat.le_of_dvd (gapR f r).den_pos dd
  have d2 : f.b ^ f.lo.natAbs ≤ B := Nat.le_trans (pow_mono hb (by omega)) hB
  have dB : r.den ≤ B := by omega
  refine ⟨?_, dB⟩
  have ml : mostR f ≤ (B : Rat) := by
    have a := Rat.le_of_lt (most_lt hf)
    have b := pw_mono (b := f.b) hb (show f.k + f.hi ≤ ((f.k.natAbs + max f.lo.natAbs f.hi.natAbs : Nat) : Int) by omega)
    have c : pw f.b ((f.k.natAbs + max f.lo.natAbs f.hi.natAbs : Nat) : Int) = ((f.b ^ (f.k.natAbs + max f.lo.natAbs f.hi.natAbs) : Nat) : Rat) := by unfold pw; rw [if_pos (by omega)]; rfl
    rw [c] at b
    have d := nat_le.mpr hB
    exact Rat.le_trans a (Rat.le_trans b d)
  have n1 : ((r.num.natAbs : Nat) : Rat) ≤ (B : Rat) * (B : Rat) := by
    rw [← abs_cast, num_is, abs_mul]
    have e2 : ((r.den : Nat) : Rat).abs = (r.den : Rat) := by
      rw [abs_is', if_neg]
      have := nat_le.mpr (Nat.zero_le r.den)
      have z : ((0 : Nat) : Rat) = 0 := rfl
      grind
    rw [e2]
    exact mul_mono (Rat.le_trans l ml) (nat_le.mpr dB) (abs_nn' _) (nat_le.mpr (Nat.zero_le _))
  rw [← Rat.natCast_mul, nat_le] at n1
  exact n1
theorem prod_ok {f : Fm} {n : Int} {x : Rat} (hf : FmOk f) (hx : Ok x) (hn : n.natAbs ≤ 10 ^ 140) (h : ((n : Rat) * gapR f x).abs ≤ mostR f) : Ok ((n : Rat) * gapR f x) := by
  have gk := gap_ok hf hx
  have hb := b_pos hf
  have d2 : f.b ^ f.lo.natAbs ≤ 10 ^ 140 := sh_le hf (by omega)
  have dd : ((n : Rat) * gapR f x).den ≤ 10 ^ 140 := by
    have := Nat.le_of_dvd (gapR f x).den_pos (mul_den n (gapR f x))
    omega
  have ml : mostR f ≤ ((10 ^ 140 : Nat) : Rat) := by
    have a := Rat.le_of_lt (most_lt hf)
    have b := pw_mono (b := f.b) hb (show f.k + f.hi ≤ ((f.k.natAbs + max f.lo.natAbs f.hi.natAbs : Nat) : Int) by omega)
    have c : pw f.b ((f.k.natAbs + max f.lo.natAbs f.hi.natAbs : Nat) : Int) = ((f.b ^ (f.k.natAbs + max f.lo.natAbs f.hi.natAbs) : Nat) : Rat) := by unfold pw; rw [if_pos (by omega)]; rfl
    rw [c] at b
    have d := nat_le.mpr hf.sh
    exact Rat.le_trans a (Rat.le_trans b d)
  generalize (n : Rat) * gapR f x = r at *
  have n1 : ((r.num.natAbs : Nat) : Rat) ≤ ((10 ^ 140 : Nat) : Rat) * ((10 ^ 140 : Nat) : Rat) := by
    rw [← abs_cast, num_is, abs_mul]
    have e2 : ((r.den : Nat) : Rat).abs = (r.den : Rat) := by
      rw [abs_is', if_neg]
      have := nat_le.mpr (Nat.zero_le r.den)
      have z : ((0 : Nat) : Rat) = 0 := rfl
      grind
    rw [e2]
    exact mul_mono (Rat.le_trans h ml) (nat_le.mpr dd) (abs_nn' _) (nat_le.mpr (Nat.zero_le _))
  rw [← Rat.natCast_mul, nat_le] at n1
  exact ⟨Nat.lt_of_le_of_lt n1 (by decide +kernel), Nat.lt_of_le_of_lt dd (by decide +kernel)⟩
def eO : Option Rat → PV
  | none => .non
  | some q => eQ q
theorem e_raw_rounded {f : Fm} {w : Wy} {x : Rat} {S : Sto} (hf : FmOk f) (hx : Ok x) : F_raw_rounded [eF f, eY w, eQ x] S = .ok (eO (roundR f w x)) S ∧ (∀ r, roundR f w x = some r → Ok r) := by
  have gk := (gap_ok hf hx).1
  have g0 := gap_pos hf x
  have sd := sm_dim hf hx
  have gn : 0 < (gapR f x).num := num_pos.mpr g0
  have e1 := fun S => e_raw_gap (S := S) hf hx
  have e2 := fun S => e_raw_most (S := S) hf
  have bp : 0 < (x.den : Int) * (gapR f x).num := Int.mul_pos (den_p x) gn
  have e3 := fun S => e_integer_by (w := w) (S := S) bp sd.1 sd.2
  rw [div_is] at e3
  have rm := rnd_most (w := w) hf hx
  generalize hn : rnd w (x / gapR f x) = n at *
  have m1 := fun S => mul_sm (S := S) (sm_n hx) (sm_d gk)
  have m2 := fun S => mul_sm (S := S) (sm_d hx) (sm_n gk)
  have m3 := fun S => mul_sm (S := S) (i := (n.natAbs : Int)) (j := (gapR f x).num) (by rw [Int.natAbs_natCast]; exact Nat.le_trans rm (by decide +kernel)) (sm_n gk)
  have mk := most_ok hf
  have m4 := fun S => mul_sm (S := S) (i := (n.natAbs : Int) * (gapR f x).num) (j := ((mostR f).den : Int)) (Nat.le_trans (mul_abs (m := 10 ^ 140) (by rw [Int.natAbs_natCast]; exact rm) gk.bd.n) (by decide +kernel)) (sm_d mk)
  have m5 := fun S => mul_sm (S := S) (sm_n mk) (sm_d gk)
  have ab : (if n < 0 then -n else n) = (n.natAbs : Int) := by split <;> omega
  have cm := cmp_most (n := n.natAbs) (g := gapR f x) (M := mostR f)
  have ga : (gapR f x).abs = gapR f x := by rw [abs_is']; grind
  have ea : ((n : Rat) * gapR f x).abs = (n.natAbs : Rat) * gapR f x := by rw [abs_mul, abs_cast, ga]
  have on : Ok (n : Rat) := (int_bd rm (by decide +kernel)).ok (by decide +kernel)
  have e4 := fun S => e_raw_times (S := S) on gk
  have qn := q_int n
  have rr : roundR f w x = if ((n : Rat) * gapR f x).abs ≤ mostR f then some ((n : Rat) * gapR f x) else none := by
    unfold roundR
    rw [hn]
  rw [rr]
  by_cases c : ((n : Rat) * gapR f x).abs ≤ mostR f
  · have po := prod_ok hf hx rm c
    have q := fun S => rQ_ok (S := S) po
    have c2 : ¬ ((mostR f).num * ((gapR f x).den : Int) < (n.natAbs : Int) * (gapR f x).num * ((mostR f).den : Int)) := fun z => (cm.mp z) (ea ▸ c)
    rw [if_pos c]
    refine ⟨?_, fun r h => by injection h with h; rw [← h]; exact po⟩
    simp [F_raw_rounded, d_raw_rounded, runF, startP, endOf, dRet, dRetN, dIf, dIfS, dB, dBin, dUn, dV, dC, sE, asB, dSeq, dSet, dPar, dPar3, dAsg, dExpr, dAnd, dOr, dNot, bAnd, bOr, bNot, dTru, dCB, dCons, dNil, dTup, dLst, dChain, dPass, fCmpI, fIsN, gTp, gsCons, gsNil, gNm, mkTup, dSl, dPart, dNoPart, lim, iLt, iLe, iGt, iGe, e1, e2, e3, ix_q0, ix_q1, m1, m2, m3, m4, m5, w_abs, ab, c2, qn, e4, q, eO]
  · have c2 : ((mostR f).num * ((gapR f x).den : Int) < (n.natAbs : Int) * (gapR f x).num * ((mostR f).den : Int)) := cm.mpr (fun z => c (ea ▸ z))
    rw [if_neg c]
    refine ⟨?_, fun r h => by cases h⟩
    simp [F_raw_rounded, d_raw_rounded, runF, startP, endOf, dRet, dRetN, dIf, dIfS, dB, dBin, dUn, dV, dC, sE, asB, dSeq, dSet, dPar, dPar3, dAsg, dExpr, dAnd, dOr, dNot, bAnd, bOr, bNot, dTru, dCB, dCons, dNil, dTup, dLst, dChain, dPass, fCmpI, fIsN, gTp, gsCons, gsNil, gNm, mkTup, dSl, dPart, dNoPart, lim, iLt, iLe, iGt, iGe, e1, e2, e3, ix_q0, ix_q1, m1, m2, m3, m4, m5, w_abs, ab, c2, eO]
end G04
end
section
set_option Elab.async false
set_option linter.all false
set_option maxRecDepth 100000
set_option maxHeartbeats 4000000
namespace G04
open PySem PySem.Spec PyProof.Rows L2 Mi Ra
/-! ### formats, ways, words -/
theorem len_eF {f : Fm} {S : Sto} : fLen [eF f] S = .ok (.int 4) S := rfl
theorem isi_eF {f : Fm} {S : Sto} : fIsi [eF f, .ty "tuple"] S = .ok (.bl true) S := rfl
theorem e_within {i l h : Int} {S : Sto} (h1 : l ≤ i) (h2 : i ≤ h) : F_is_within [.int i, .int l, .int h] S = .ok (.bl true) S := by
  have e : F_is_integer [.int i] S = .ok (.bl true) S := rfl
  simp [F_is_within, d_is_within, runF, startP, endOf, dRet, dRetN, dIf, dIfS, dB, dBin, dUn, dV, dC, sE, asB, dSeq, dSet, dPar, dPar3, dAsg, dExpr, dAnd, dOr, dNot, bAnd, bOr, bNot, dTru, dCB, dCons, dNil, dTup, dLst, dChain, dPass, fCmpI, fIsN, gTp, gsCons, gsNil, gNm, mkTup, dSl, dPart, dNoPart, lim, iLt, iLe, iGt, iGe, e, h1, h2]
theorem e_digits {b : Nat} {S : Sto} : F_digits_of [.int b] S = .ok (.int (digs b)) S := by
  have a1 : ((b : Int) < 3) ↔ b < 3 := by omega
  have a2 : ((b : Int) < 5) ↔ b < 5 := by omega
  have a3 : ((b : Int) < 11) ↔ b < 11 := by omega
  unfold digs
  by_cases c1 : b < 3
  · simp [F_digits_of, d_digits_of, runF, startP, endOf, dRet, dRetN, dIf, dIfS, dB, dBin, dUn, dV, dC, sE, asB, dSeq, dSet, dPar, dPar3, dAsg, dExpr, dAnd, dOr, dNot, bAnd, bOr, bNot, dTru, dCB, dCons, dNil, dTup, dLst, dChain, dPass, fCmpI, fIsN, gTp, gsCons, gsNil, gNm, mkTup, dSl, dPart, dNoPart, lim, iLt, iLe, iGt, iGe, a1, c1]
  · by_cases c2 : b < 5
    · simp [F_digits_of, d_digits_of, runF, startP, endOf, dRet, dRetN, dIf, dIfS, dB, dBin, dUn, dV, dC, sE, asB, dSeq, dSet, dPar, dPar3, dAsg, dExpr, dAnd, dOr, dNot, bAnd, bOr, bNot, dTru, dCB, dCons, dNil, dTup, dLst, dChain, dPass, fCmpI, fIsN, gTp, gsCons, gsNil, gNm, mkTup, dSl, dPart, dNoPart, lim, iLt, iLe, iGt, iGe, a1, a2, c1, c2]
    · by_cases c3 : b < 11 <;> simp [F_digits_of, d_digits_of, runF, startP, endOf, dRet, dRetN, dIf, dIfS, dB, dBin, dUn, dV, dC, sE, asB, dSeq, dSet, dPar, dPar3, dAsg, dExpr, dAnd, dOr, dNot, bAnd, bOr, bNot, dTru, dCB, dCons, dNil, dTup, dLst, dChain, dPass, fCmpI, fIsN, gTp, gsCons, gsNil, gNm, mkTup, dSl, dPart, dNoPart, lim, iLt, iLe, iGt, iGe, a1, a2, a3, c1, c2, c3]
theorem digs_sm (b : Nat) : (digs b).natAbs ≤ 13 := by
  unfold digs
  split
  · decide
  · split
    · decide
    · split <;> decide
theorem e_is_short {f : Fm} {S : Sto} (hf : FmOk f) : F_is_short [eF f] S = .ok (.bl true) S := by
  have k0 := hf.k0
  have k1 := hf.k1
  have l0 := hf.l0
  have l1 := hf.l1
  have h0 := hf.h0
  have h1 := hf.h1
  have mx : fMax [.int (if f.lo < 0 then -f.lo else f.lo), .int (if f.hi < 0 then -f.hi else f.hi)] S = .ok (.int ((max f.lo.natAbs f.hi.natAbs : Nat) : Int)) S := by
    show Res.ok (PV.int (if (if f.hi < 0 then -f.hi else f.hi) > (if f.lo < 0 then -f.lo else f.lo) then (if f.hi < 0 then -f.hi else f.hi) else (if f.lo < 0 then -f.lo else f.lo))) S = _
    congr 2
    split <;> split <;> split <;> omega
  have m1 := fun S => mul_sm (S := S) (i := f.k + ((max f.lo.natAbs f.hi.natAbs : Nat) : Int)) (j := digs f.b) (Nat.le_trans (show _ ≤ 1000 by omega) (by decide +kernel)) (Nat.le_trans (digs_sm f.b) (by decide +kernel))
  have m2 : ∀ S, fMul false (.int 140) (.int 10) S = .ok (.int 1400) S := fun S => rfl
  have sd := hf.sd
  simp [F_is_short, d_is_short, runF, startP, endOf, dRet, dRetN, dIf, dIfS, dB, dBin, dUn, dV, dC, sE, asB, dSeq, dSet, dPar, dPar3, dAsg, dExpr, dAnd, dOr, dNot, bAnd, bOr, bNot, dTru, dCB, dCons, dNil, dTup, dLst, dChain, dPass, fCmpI, fIsN, gTp, gsCons, gsNil, gNm, mkTup, dSl, dPart, dNoPart, lim, iLt, iLe, iGt, iGe, ix_f0, ix_f1, ix_f2, ix_f3, w_abs, mx, w_add, m1, m2, e_digits, sd]
theorem e_is_format {f : Fm} {S : Sto} (hf : FmOk f) : F_is_format [eF f] S = .ok (.bl true) S := by
  have b0 := hf.b0
  have b1 := hf.b1
  have w1 := fun S => e_within (i := (f.b : Int)) (l := 2) (h := 16) (S := S) (by omega) (by omega)
  have w2 := fun S => e_within (i := f.k) (l := 1) (h := 60) (S := S) hf.k0 hf.k1
  have w3 := fun S => e_within (i := f.lo) (l := -400) (h := 400) (S := S) hf.l0 hf.l1
  have w4 := fun S => e_within (i := f.hi) (l := -400) (h := 400) (S := S) hf.h0 hf.h1
  have l3 : dLc false (iSeq (dSl false (dV 0) (dPart (dC (.int 2))) (dNoPart))) (cNm 1) (dYes) (dCB F_is_within (dCons (dV 1) (dCons (dUn fNeg (dC (.int c_MOST_EXPONENT))) (dCons (dC (.int c_MOST_EXPONENT)) (dNil))))) [1] [some (eF f), none] S = .ok (.nl [.bl true, .bl true]) S := by
    have i : iSeq (dSl false (dV 0) (dPart (dC (.int 2))) (dNoPart)) [some (eF f), none] S = .ok ([f.lo, f.hi].map .int) S := rfl
    have q := dLc_map (α := Int) (di := iSeq (dSl false (dV 0) (dPart (dC (.int 2))) (dNoPart))) (f := cNm 1) (de := dCB F_is_within (dCons (dV 1) (dCons (dUn fNeg (dC (.int c_MOST_EXPONENT))) (dCons (dC (.int c_MOST_EXPONENT)) (dNil))))) (ρ := [some (eF f), none]) (vs := [1]) (S := S) (xs := [f.lo, f.hi]) PV.int (fun _ => .bl true) (fun i => -400 ≤ i ∧ i ≤ 400) i ?_ ?_
    · exact q (by show 2 ≤ lim; decide +kernel)
    · intro i hi
      refine ⟨[some (eF f), some (.int i)], rfl, fun S => ?_⟩
      have := fun S => e_within (i := i) (l := -400) (h := 400) (S := S) hi.1 hi.2
      simp [runF, startP, endOf, dRet, dRetN, dIf, dIfS, dB, dBin, dUn, dV, dC, sE, asB, dSeq, dSet, dPar, dPar3, dAsg, dExpr, dAnd, dOr, dNot, bAnd, bOr, bNot, dTru, dCB, dCons, dNil, dTup, dLst, dChain, dPass, fCmpI, fIsN, gTp, gsCons, gsNil, gNm, mkTup, dSl, dPart, dNoPart, lim, iLt, iLe, iGt, iGe, w_neg, this]
    · intro i hi
      simp at hi
      rcases hi with rfl | rfl
      · exact ⟨hf.l0, hf.l1⟩
      · exact ⟨hf.h0, hf.h1⟩
  have al : fAll [.nl [.bl true, .bl true]] S = .ok (.bl true) S := rfl
  have lh := hf.lh
  simp [F_is_format, d_is_format, runF, startP, endOf, dRet, dRetN, dIf, dIfS, dB, dBin, dUn, dV, dC, sE, asB, dSeq, dSet, dPar, dPar3, dAsg, dExpr, dAnd, dOr, dNot, bAnd, bOr, bNot, dTru, dCB, dCons, dNil, dTup, dLst, dChain, dPass, fCmpI, fIsN, gTp, gsCons, gsNil, gNm, mkTup, dSl, dPart, dNoPart, lim, iLt, iLe, iGt, iGe, isi_eF, len_eF, w_eq, ix_f0, ix_f1, ix_f2, ix_f3, w1, w2, l3, al, truP, lh, e_is_short hf]
theorem e_chk_format {f : Fm} {S : Sto} (hf : FmOk f) : F_check_format [eF f] S = .ok .non S := by
  simp [F_check_format, d_check_format, runF, startP, endOf, dRet, dRetN, dIf, dIfS, dB, dBin, dUn, dV, dC, sE, asB, dSeq, dSet, dPar, dPar3, dAsg, dExpr, dAnd, dOr, dNot, bAnd, bOr, bNot, dTru, dCB, dCons, dNil, dTup, dLst, dChain, dPass, fCmpI, fIsN, gTp, gsCons, gsNil, gNm, mkTup, dSl, dPart, dNoPart, lim, iLt, iLe, iGt, iGe, e_is_format hf, truP]
theorem e_chk_way {w : Wy} {S : Sto} : F_check_way [eY w] S = .ok .non S := by
  have i : ∀ s : Str, fIsi [.str s, .ty "str"] S = .ok (.bl true) S := fun s => rfl
  cases w <;> simp [F_check_way, d_check_way, runF, startP, endOf, dRet, dRetN, dIf, dIfS, dB, dBin, dUn, dV, dC, sE, asB, dSeq, dSet, dPar, dPar3, dAsg, dExpr, dAnd, dOr, dNot, bAnd, bOr, bNot, dTru, dCB, dCons, dNil, dTup, dLst, dChain, dPass, fCmpI, fIsN, gTp, gsCons, gsNil, gNm, mkTup, dSl, dPart, dNoPart, lim, iLt, iLe, iGt, iGe, eY, i, truP]
theorem fmod_dvd {a b : Int} (hb : 0 < b) (m : Int) (h : a = m * b) : a.fmod b = 0 := by rw [h, Int.fmod_eq_emod_of_nonneg _ (by omega)]; exact Int.mul_emod_left m b
theorem e_raw_is_number {f : Fm} {x : Rat} {S : Sto} (hf : FmOk f) (hx : Ok x) (h : IsNum f x) : F_raw_is_number [eF f, eQ x] S = .ok (.bl true) S := by
  have gk := (gap_ok hf hx).1
  have e1 := fun S => e_raw_gap (S := S) hf hx
  have e2 := fun S => e_raw_most (S := S) hf
  have g0 := gap_pos hf x
  have gn : 0 < (gapR f x).num := num_pos.mpr g0
  have bp : 0 < (x.den : Int) * (gapR f x).num := Int.mul_pos (den_p x) gn
  have m1 := fun S => mul_sm (S := S) (sm_n hx) (sm_d gk)
  have m2 := fun S => mul_sm (S := S) (sm_d hx) (sm_n gk)
  obtain ⟨l, m, e⟩ := h
  have le := fun S => e_raw_at_most (S := S) hx.abs (most_ok hf)
  have ee : x.num * ((gapR f x).den : Int) = m * ((x.den : Int) * (gapR f x).num) := by
    rw [← Rat.intCast_inj, Rat.intCast_mul, Rat.intCast_mul, Rat.intCast_mul, num_is, num_is, Rat.intCast_natCast, Rat.intCast_natCast]
    have e' : x = (m : Rat) * gapR f x := e
    generalize gapR f x = g at e' ⊢
    have : x * (x.den : Rat) * (g.den : Rat) = ((m : Rat) * g) * (x.den : Rat) * (g.den : Rat) := by rw [← e']
    grind
  have md := fun S => mod_sm (S := S) (i := x.num * ((gapR f x).den : Int)) bp
  have f0 := fmod_dvd bp m ee
  simp [F_raw_is_number, d_raw_is_number, runF, startP, endOf, dRet, dRetN, dIf, dIfS, dB, dBin, dUn, dV, dC, sE, asB, dSeq, dSet, dPar, dPar3, dAsg, dExpr, dAnd, dOr, dNot, bAnd, bOr, bNot, dTru, dCB, dCons, dNil, dTup, dLst, dChain, dPass, fCmpI, fIsN, gTp, gsCons, gsNil, gNm, mkTup, dSl, dPart, dNoPart, lim, iLt, iLe, iGt, iGe, e1, e2, e_raw_size, le, l, truP, ix_q0, ix_q1, m1, m2, md, f0, w_eq]
theorem e_is_number_of {f : Fm} {x : Rat} {S : Sto} (hf : FmOk f) (hx : Ok x) (h : IsNum f x) : F_is_number_of [eF f, eQ x] S = .ok (.bl true) S := by
  simp [F_is_number_of, d_is_number_of, runF, startP, endOf, dRet, dRetN, dIf, dIfS, dB, dBin, dUn, dV, dC, sE, asB, dSeq, dSet, dPar, dPar3, dAsg, dExpr, dAnd, dOr, dNot, bAnd, bOr, bNot, dTru, dCB, dCons, dNil, dTup, dLst, dChain, dPass, fCmpI, fIsN, gTp, gsCons, gsNil, gNm, mkTup, dSl, dPart, dNoPart, lim, iLt, iLe, iGt, iGe, e_chk_format hf, e_chkf hx, e_raw_is_number hf hx h]
theorem half_ok : Ok (1 / 2 : Rat) := ⟨by decide +kernel, by decide +kernel⟩
theorem half_is : PV.tup [.int 1, .int 2] = eQ (1 / 2 : Rat) := by kernel_rfl
theorem e_raw_off {f : Fm} {w : Wy} {x : Rat} {S : Sto} (hf : FmOk f) (hx : Ok x) : F_raw_off [eF f, eY w, eQ x] S = (if w = .near then rQ (offR f w x) S else .ok (eQ (offR f w x)) S) := by
  have gk := (gap_ok hf hx).1
  have e1 := fun S => e_raw_gap (S := S) hf hx
  have e2 := fun S => e_raw_times (S := S) gk half_ok
  cases w with
  | near =>
    unfold offR
    rw [if_pos rfl, if_pos rfl]
    have ev : F_raw_off [eF f, eY .near, eQ x] S = endOf (sE (F_raw_times [eQ (gapR f x), eQ (1 / 2)] S) [some (eF f), some (eY .near), some (eQ x), some (eQ (gapR f x))] fun v S1 => .rt v S1) := by
      simp [F_raw_off, d_raw_off, runF, startP, endOf, dRet, dRetN, dIf, dIfS, dB, dBin, dUn, dV, dC, sE, asB, dSeq, dSet, dPar, dPar3, dAsg, dExpr, dAnd, dOr, dNot, bAnd, bOr, bNot, dTru, dCB, dCons, dNil, dTup, dLst, dChain, dPass, fCmpI, fIsN, gTp, gsCons, gsNil, gNm, mkTup, dSl, dPart, dNoPart, lim, iLt, iLe, iGt, iGe, -sE, eY, e1, half_is]
    rw [ev, e2]
    unfold rQ
    split <;> rfl
  | down | up | zero => simp [F_raw_off, d_raw_off, runF, startP, endOf, dRet, dRetN, dIf, dIfS, dB, dBin, dUn, dV, dC, sE, asB, dSeq, dSet, dPar, dPar3, dAsg, dExpr, dAnd, dOr, dNot, bAnd, bOr, bNot, dTru, dCB, dCons, dNil, dTup, dLst, dChain, dPass, fCmpI, fIsN, gTp, gsCons, gsNil, gNm, mkTup, dSl, dPart, dNoPart, lim, iLt, iLe, iGt, iGe, eY, e1, offR]
end G04
end
section
set_option Elab.async false
set_option linter.all false
set_option maxRecDepth 100000
set_option maxHeartbeats 4000000
namespace G04
open PySem PySem.Spec PyProof.Rows L2 Mi Ra
/-! ### holds -/
def eH (h : Hd) : PV := .tup [eQ h.lo, eQ h.hi, eQ h.off]
structure HOk (h : Hd) : Prop where
  lo : Ok h.lo
  hi : Ok h.hi
  off : Ok h.off
def eW : Wrd → PV
  | .neg => .str "neg"
  | .size => .str "size"
  | .add => .str "add"
  | .sub => .str "sub"
  | .mul => .str "mul"
  | .div => .str "div"
  | .least => .str "least"
  | .most => .str "most"
theorem ix_h0 (h : Hd) (S : Sto) : fIx (eH h) (.int 0) S = .ok (eQ h.lo) S := rfl
theorem ix_h1 (h : Hd) (S : Sto) : fIx (eH h) (.int 1) S = .ok (eQ h.hi) S := rfl
theorem ix_h2 (h : Hd) (S : Sto) : fIx (eH h) (.int 2) S = .ok (eQ h.off) S := rfl
theorem isi_h (h : Hd) (S : Sto) : fIsi [eH h, .ty "tuple"] S = .ok (.bl true) S := rfl
theorem len_h (h : Hd) (S : Sto) : fLen [eH h] S = .ok (.int 3) S := rfl
theorem isi_q (q : Rat) (S : Sto) : fIsi [eQ q, .ty "tuple"] S = .ok (.bl true) S := rfl
def join (a b : Hd) : Hd := ⟨rmin a.lo b.lo, rmax a.hi b.hi, rmax a.off b.off⟩
theorem ok_max {x y : Rat} (hx : Ok x) (hy : Ok y) : Ok (rmax x y) := by unfold rmax; split <;> assumption
theorem ok_min {x y : Rat} (hx : Ok x) (hy : Ok y) : Ok (rmin x y) := by unfold rmin; split <;> assumption
theorem ok_0 : Ok (0 : Rat) := ⟨by decide +kernel, by decide +kernel⟩
theorem ok_mx {x y : Rat} (hx : Ok x) (hy : Ok y) : Ok (mx x y) := ok_max hx.abs hy.abs
theorem ok_ls {x y : Rat} (hx : Ok x) (hy : Ok y) : Ok (ls x y) := by
  unfold ls
  split
  · exact ok_0
  · exact ok_min hx.abs hy.abs
def Wrd.one : Wrd → Bool
  | .neg | .size => true
  | _ => false
def args {α : Type} (w : Wrd) (x y : α) : List α := if Wrd.one w = true then [x] else [x, y]
theorem args_0 (w : Wrd) (x y : PV) (S : Sto) : fIx (.tup (args w x y)) (.int 0) S = .ok x S := by cases w <;> rfl
theorem args_l0 (w : Wrd) (x y : PV) (S : Sto) : fIx (.nl (args w x y)) (.int 0) S = .ok x S := by cases w <;> rfl
end G04
end
section
set_option Elab.async false
set_option linter.all false
set_option maxRecDepth 100000
set_option maxHeartbeats 4000000
namespace G04
open PySem PySem.Spec PyProof.Rows L2 Mi Ra
/-! ### holds by words -/
/-- what the ends need to be short -/
def enOk (w : Wrd) (h g : Hd) : Prop := Ok (w.ex h.lo g.lo) ∧ Ok (w.ex h.lo g.hi) ∧ Ok (w.ex h.hi g.lo) ∧ Ok (w.ex h.hi g.hi)
def spOk : Wrd → Hd → Hd → Prop
  | .mul, h, g => Ok (mx h.lo h.hi * g.off) ∧ Ok (mx g.lo g.hi * h.off) ∧ Ok (mx h.lo h.hi * g.off + mx g.lo g.hi * h.off) ∧ Ok (h.off * g.off) ∧ Ok (mx h.lo h.hi * g.off + mx g.lo g.hi * h.off + h.off * g.off)
  | .div, h, g => Ok (mx h.lo h.hi * g.off) ∧ Ok (mx h.lo h.hi * g.off / ls g.lo g.hi) ∧ Ok (h.off + mx h.lo h.hi * g.off / ls g.lo g.hi) ∧ Ok (ls g.lo g.hi - g.off) ∧ Ok ((h.off + mx h.lo h.hi * g.off / ls g.lo g.hi) / (ls g.lo g.hi - g.off))
  | .add, h, g | .sub, h, g => Ok (h.off + g.off)
  | _, _, _ => True
def hlds (w : Wrd) (h g : Hd) : PV := .tup (args w (eH h) (eH g))
theorem hl_0 (w : Wrd) (h g : Hd) (S : Sto) : fIx (hlds w h g) (.int 0) S = .ok (eH h) S := args_0 w _ _ S
end G04
end
section
set_option Elab.async false
set_option linter.all false
set_option maxRecDepth 100000
set_option maxHeartbeats 4000000
namespace G04
open PySem PySem.Spec PyProof.Rows L2 Mi Ra
/-- all that a hold by a word needs to be short -/
structure HbOk (f : Fm) (y : Wy) (w : Wrd) (h g : Hd) : Prop where
  en : enOk w h g
  es : w = .sub → Ok (h.lo - g.hi) ∧ Ok (h.hi - g.lo)
  sp : spOk w h g
  lo : w.big = true → Ok (eLo w h g)
  hi : w.big = true → Ok (eHi w h g)
  s : w.big = true → Ok (spr w h g)
  m : w.big = true → Ok (mstR w h g)
  o : w.big = true → mstR w h g ≤ mostR f → Ok (offR f y (mstR w h g))
  t : w.big = true → mstR w h g ≤ mostR f → Ok (spr w h g + offR f y (mstR w h g))
def eHO : Option Hd → PV
  | none => .non
  | some h => eH h
end G04
end
section
set_option Elab.async false
set_option linter.all false
set_option maxRecDepth 100000
set_option maxHeartbeats 400000
namespace G04
open PySem PySem.Spec PyProof.Rows L2 Mi Ra
/-! the public ones -/
theorem isi_s (s : Str) (S : Sto) : fIsi [.str s, .ty "str"] S = .ok (.bl true) S := rfl
theorem isi_t (xs : List PV) (S : Sto) : fIsi [.tup xs, .ty "tuple"] S = .ok (.bl true) S := rfl
def nums (w : Wrd) (x z : Rat) : PV := .tup (args w (eQ x) (eQ z))
theorem all_nums {w : Wrd} {x z : Rat} {S : Sto} {a0 : Option PV} (hx : Ok x) (hz : Ok z) : dLc false (iSeq (dV 1)) (cNm 2) (dYes) (dCB F_is_fraction (dCons (dV 2) (dNil))) [2] [a0, some (nums w x z), none] S = .ok (.nl (args w (.bl true) (.bl true))) S := by
  have r1 := fun S => e_fraction (S := S) hx
  have r2 := fun S => e_fraction (S := S) hz
  have i : iSeq (dV 1) [a0, some (nums w x z), none] S = .ok (args w (eQ x) (eQ z)) S := by cases w <;> rfl
  have w1 : wipeP [a0, some (nums w x z), none] [2] = [a0, some (nums w x z), none] := rfl
  cases w <;> simp only [args, Wrd.one] at * <;> simp at i ⊢ <;> simp [dLc, lcP, i, w1, cNm, dYes, runF, startP, endOf, dRet, dRetN, dIf, dIfS, dB, dBin, dUn, dV, dC, sE, asB, dSeq, dSet, dPar, dPar3, dAsg, dExpr, dAnd, dOr, dNot, bAnd, bOr, bNot, dTru, dCB, dCons, dNil, dTup, dLst, dChain, dPass, fCmpI, fIsN, gTp, gsCons, gsNil, gNm, mkTup, dSl, dPart, dNoPart, lim, iLt, iLe, iGt, iGe, r1, r2, mkLst]
end G04
end
section
set_option Elab.async false
set_option linter.all false
set_option maxRecDepth 100000
set_option maxHeartbeats 1000000
namespace G04
open PySem PySem.Spec PyProof.Rows L2 Mi Ra

/-! ### the hand, and what is drawn of it -/
section
variable {S : Sto} {a b c d e x : PV} {ρ : EnP}
abbrev hT (S : Sto) (a b c d e : PV) : Sto := S.set 0 (SO.lst [a, b, c, d, e])
theorem hT_get (h : 0 < S.length) : (hT S a b c d e)[0]? = some (SO.lst [a, b, c, d, e]) := by rw [List.getElem?_set_self h]
theorem hT_set (y : SO) : (hT S a b c d e).set 0 y = S.set 0 y := by unfold hT; rw [List.set_set]
theorem seq_ref {n : Nat} {xs : List PV} {S : Sto} (h : S[n]? = some (SO.lst xs)) : seqOf (.ref n) S = some xs := by
  show (match S[n]? with | some (SO.lst xs) => some xs | _ => none) = _
  rw [h]
theorem ix_ref {n : Nat} {xs : List PV} {S : Sto} {i : Int} {y : PV} (h : S[n]? = some (SO.lst xs)) (e : atI xs i = some y) : fIx (.ref n) (.int i) S = .ok y S := by
  show (match seqOf (.ref n) S with | some xs => (match atI xs i with | some v => Res.ok v S | none => .bad) | none => .bad) = _
  rw [seq_ref h]
  simp only [e]
theorem ix0 (h : 0 < S.length) : fIx (.ref 0) (.int 0) (hT S a b c d e) = .ok a (hT S a b c d e) := ix_ref (hT_get h) rfl
theorem ix1 (h : 0 < S.length) : fIx (.ref 0) (.int 1) (hT S a b c d e) = .ok b (hT S a b c d e) := ix_ref (hT_get h) rfl
theorem ix2 (h : 0 < S.length) : fIx (.ref 0) (.int 2) (hT S a b c d e) = .ok c (hT S a b c d e) := ix_ref (hT_get h) rfl
theorem ix3 (h : 0 < S.length) : fIx (.ref 0) (.int 3) (hT S a b c d e) = .ok d (hT S a b c d e) := ix_ref (hT_get h) rfl
theorem ix4 (h : 0 < S.length) : fIx (.ref 0) (.int 4) (hT S a b c d e) = .ok e (hT S a b c d e) := ix_ref (hT_get h) rfl
theorem set_ref {n : Nat} {xs : List PV} {S : Sto} {i : Int} {j : Nat} (h : S[n]? = some (SO.lst xs)) (e : ixN xs.length i = some j) : setIx x ρ (.ref n) (.int i) S = .ok ρ (S.set n (SO.lst (xs.set j x))) := by
  show (match S[n]? with | some (SO.lst xs) => (match ixN xs.length i with | some j => Res.ok ρ (S.set n (SO.lst (xs.set j x))) | none => .bad) | _ => .bad) = _
  rw [h]
  simp only [e]
theorem st1 (h : 0 < S.length) : setIx x ρ (.ref 0) (.int 1) (hT S a b c d e) = .ok ρ (hT S a x c d e) := by rw [set_ref (hT_get h) (j := 1) rfl, hT_set]; rfl
theorem st2 (h : 0 < S.length) : setIx x ρ (.ref 0) (.int 2) (hT S a b c d e) = .ok ρ (hT S a b x d e) := by rw [set_ref (hT_get h) (j := 2) rfl, hT_set]; rfl
theorem st3 (h : 0 < S.length) : setIx x ρ (.ref 0) (.int 3) (hT S a b c d e) = .ok ρ (hT S a b c x e) := by rw [set_ref (hT_get h) (j := 3) rfl, hT_set]; rfl
theorem st4 (h : 0 < S.length) : setIx x ρ (.ref 0) (.int 4) (hT S a b c d e) = .ok ρ (hT S a b c d x) := by rw [set_ref (hT_get h) (j := 4) rfl, hT_set]; rfl
end
def cellsP (cs : List Int) : PV := .nl (cs.map .int)
theorem len_cells (cs : List Int) (S : Sto) : fLen [cellsP cs] S = .ok (.int cs.length) S := by
  show Res.ok (PV.int ((cs.map PV.int).length : Nat)) S = _
  rw [List.length_map]
theorem ix_cells {cs : List Int} {i : Int} {S : Sto} (h0 : 0 ≤ i) (h1 : i < cs.length) : ∃ y ∈ cs, fIx (cellsP cs) (.int i) S = .ok (.int y) S := by
  have hl : i.toNat < cs.length := by omega
  refine ⟨cs[i.toNat], List.getElem_mem hl, ?_⟩
  have e : atI (cs.map PV.int) i = some (.int cs[i.toNat]) := by
    unfold atI ixN
    rw [List.length_map, if_pos h0, if_pos h1]
    simp [hl]
  show (match atI (cs.map PV.int) i with | some v => Res.ok v S | none => .bad) = _
  rw [e]
theorem log2_mono {a b : Nat} (h : a ≤ b) : a.log2 ≤ b.log2 := by
  by_cases z : a = 0
  · rw [z]; exact Nat.zero_le _
  · rw [Nat.le_log2 (by omega)]
    exact Nat.le_trans (Nat.log2_self_le z) h
theorem log2_sm {a : Nat} (h : a ≤ 2 ^ 4000) : a.log2 ≤ 4000 := by
  by_cases z : a = 0
  · rw [z]; decide
  · have := (Nat.log2_lt z (k := 4001)).mpr (Nat.lt_of_le_of_lt h (by decide +kernel))
    omega
theorem mul_bg {i j : Int} {S : Sto} (h1 : i.natAbs.log2 ≤ 2000000) (h2 : j.natAbs ≤ 2 ^ 4000) : fMul false (.int i) (.int j) S = .ok (.int (i * j)) S := by
  have := log2_sm h2
  show (if i.natAbs.log2 + j.natAbs.log2 < 100000000 then Res.ok (PV.int (i * j)) S else .bad) = _
  rw [if_pos (by omega)]
structure HB (cs : List Int) (i v s c : Int) (b : Int) : Prop where
  cs : ∀ x ∈ cs, 0 ≤ x ∧ x.natAbs.log2 ≤ 2000000
  i : 0 ≤ i
  v0 : 0 ≤ v
  v1 : v.natAbs.log2 ≤ 2000000
  s0 : 0 ≤ s
  s1 : s < 2147483648
  c0 : 0 ≤ c
  c1 : c ≤ b
theorem pow_sm {i j : Int} {S : Sto} (h : 0 ≤ j ∧ j ≤ 1000000 ∧ i.natAbs < 2 ^ 64) : fPow (.int i) (.int j) S = .ok (.int (i ^ j.toNat)) S := by
  show (if 0 ≤ j ∧ j ≤ 1000000 ∧ i.natAbs < 2 ^ 64 then Res.ok (PV.int (i ^ j.toNat)) S else .bad) = _
  rw [if_pos h]
theorem p18 (S : Sto) : fPow (.int 10) (.int 18) S = .ok (.int 1000000000000000000) S := pow_sm (by decide)
theorem p36 (S : Sto) : fPow (.int 10) (.int 36) S = .ok (.int 1000000000000000000000000000000000000) S := pow_sm (by decide)
theorem big40 {i : Int} (h0 : 0 ≤ i) (h1 : i < 10 ^ 40) : i.natAbs ≤ 2 ^ 4000 := by
  have : (10 : Int) ^ 40 ≤ 2 ^ 4000 := by decide +kernel
  omega
def dA : EnP → Sto → SR := (dIfS (bAnd (dB (dBin (fEq false) (dBin fIx (dV 0) (dC (.int 2))) (dC (.int 0)))) (dB (dBin (fCmpI iLt) (dBin fIx (dV 0) (dC (.int 1))) (dCB fLen (dCons (dBin fIx (dV 0) (dC (.int 0))) (dNil)))))) (dSeq (dSet 2 (dBin fIx (dBin fIx (dV 0) (dC (.int 0))) (dBin fIx (dV 0) (dC (.int 1))))) (dSeq (dAsg (dBin (fAdd false) (dBin fIx (dV 0) (dC (.int 1))) (dC (.int 1))) (gIx (dV 0) (dC (.int 1)))) (dSeq (dAsg (dBin fMod (dCB fInt (dCons (dBin (fAdd false) (dBin (fAdd false) (dBin (fMul false) (dBin fIx (dV 0) (dC (.int 3))) (dC (.int 69621))) (dBin (fMul false) (dV 2) (dC (.int 48271)))) (dC (.int 17))) (dNil))) (dC (.int 2147483629))) (gIx (dV 0) (dC (.int 3)))) (dIfS (dB (dBin (fCmpI iGe) (dV 2) (dBin fPow (dC (.int 10)) (dC (.int 18))))) (dAsg (dV 2) (gIx (dV 0) (dC (.int 2)))) (dPass))))) (dPass))
def dBs : EnP → Sto → SR := (dIfS (dB (dBin (fCmpI iGt) (dBin fIx (dV 0) (dC (.int 2))) (dC (.int 0)))) (dSeq (dSet 3 (dBin fMod (dCB fInt (dCons (dBin fIx (dV 0) (dC (.int 2))) (dNil))) (dV 1))) (dSeq (dAsg (dBin fDiv (dBin fIx (dV 0) (dC (.int 2))) (dV 1)) (gIx (dV 0) (dC (.int 2)))) (dRet (dV 3)))) (dPass))
def dCs : EnP → Sto → SR := (dSeq (dAsg (dBin (fAdd false) (dBin fIx (dV 0) (dC (.int 4))) (dC (.int 1))) (gIx (dV 0) (dC (.int 4)))) (dSeq (dSet 4 (dBin fMod (dCB fInt (dCons (dBin (fMul false) (dCB fInt (dCons (dBin (fAdd false) (dBin fIx (dV 0) (dC (.int 3))) (dBin (fMul false) (dC (.int 7919)) (dBin fIx (dV 0) (dC (.int 4))))) (dNil))) (dC (.int 40692))) (dNil))) (dC (.int 2147483647)))) (dSeq (dSet 4 (dBin fMod (dCB fInt (dCons (dBin (fMul false) (dV 4) (dBin (fAdd false) (dBin fDiv (dV 4) (dC (.int 1009))) (dC (.int 69621)))) (dNil))) (dC (.int 2147483647)))) (dSeq (dSet 4 (dBin fMod (dCB fInt (dCons (dBin (fMul false) (dV 4) (dBin (fAdd false) (dBin fDiv (dV 4) (dC (.int 2003))) (dC (.int 40014)))) (dNil))) (dC (.int 2147483563)))) (dRet (dBin fMod (dCB fInt (dCons (dBin fDiv (dV 4) (dC (.int 16))) (dNil))) (dV 1)))))))
theorem d_draw : d_law_draw_L = dSeq dA (dSeq dBs dCs) := rfl
theorem fmod_pos {i m : Int} (hm : 0 < m) : 0 ≤ i.fmod m ∧ i.fmod m < m := by
  rw [Int.fmod_eq_emod_of_nonneg _ (by omega)]
  exact ⟨Int.emod_nonneg _ (by omega), Int.emod_lt_of_pos _ hm⟩
theorem draw_A {S : Sto} (hS : 0 < S.length) {cs : List Int} {i v s c b k : Int} (h : HB cs i v s c b) :
    ∃ x2 i' v' s', dA [some (.ref 0), some (.int k), none, none, none] (hT S (cellsP cs) (.int i) (.int v) (.int s) (.int c)) = .nx [some (.ref 0), some (.int k), x2, none, none] (hT S (cellsP cs) (.int i') (.int v') (.int s') (.int c)) ∧ HB cs i' v' s' c b := by
  by_cases c1 : v = 0
  · by_cases c2 : i < cs.length
    · obtain ⟨y, hy, ey⟩ := ix_cells (S := hT S (cellsP cs) (.int i) (.int v) (.int s) (.int c)) h.i c2
      obtain ⟨y0, y1⟩ := h.cs y hy
      have m1 : ∀ S, fMul false (.int s) (.int 69621) S = .ok (.int (s * 69621)) S := fun S => mul_sm (big40 h.s0 (Int.lt_trans h.s1 (by decide))) (by decide +kernel)
      have m2 : ∀ S, fMul false (.int y) (.int 48271) S = .ok (.int (y * 48271)) S := fun S => mul_bg y1 (by decide +kernel)
      have m3 : ∀ S j, fMod (.int j) (.int 2147483629) S = .ok (.int (j.fmod 2147483629)) S := fun S j => mod_sm (by decide)
      have f3 := fmod_pos (i := s * 69621 + y * 48271 + 17) (m := 2147483629) (by decide)
      subst c1
      by_cases c3 : (1000000000000000000 : Int) ≤ y
      · refine ⟨some (.int y), i + 1, y, (s * 69621 + y * 48271 + 17).fmod 2147483629, ?_, ⟨h.cs, by have := h.i; omega, y0, y1, f3.1, by omega, h.c0, h.c1⟩⟩
        simp [dA, runF, startP, endOf, dRet, dRetN, dIf, dIfS, dB, dBin, dUn, dV, dC, sE, asB, dSeq, dSet, dPar, dPar3, dAsg, dExpr, dAnd, dOr, dNot, bAnd, bOr, bNot, dTru, dCB, dCons, dNil, dTup, dLst, dChain, dPass, fCmpI, fIsN, gTp, gsCons, gsNil, gNm, mkTup, dSl, dPart, dNoPart, lim, iLt, iLe, iGt, iGe, ix0 hS, ix1 hS, ix2 hS, ix3 hS, len_cells, w_eq, c2, ey, gIx, st1 hS, st2 hS, st3 hS, w_add, m1, m2, m3, w_int, p18, c3]
      · refine ⟨some (.int y), i + 1, 0, (s * 69621 + y * 48271 + 17).fmod 2147483629, ?_, ⟨h.cs, by have := h.i; omega, by decide, by decide, f3.1, by omega, h.c0, h.c1⟩⟩
        simp [dA, runF, startP, endOf, dRet, dRetN, dIf, dIfS, dB, dBin, dUn, dV, dC, sE, asB, dSeq, dSet, dPar, dPar3, dAsg, dExpr, dAnd, dOr, dNot, bAnd, bOr, bNot, dTru, dCB, dCons, dNil, dTup, dLst, dChain, dPass, fCmpI, fIsN, gTp, gsCons, gsNil, gNm, mkTup, dSl, dPart, dNoPart, lim, iLt, iLe, iGt, iGe, ix0 hS, ix1 hS, ix2 hS, ix3 hS, len_cells, w_eq, c2, ey, gIx, st1 hS, st2 hS, st3 hS, w_add, m1, m2, m3, w_int, p18, c3]
    · refine ⟨none, i, v, s, ?_, h⟩
      subst c1
      simp [dA, runF, startP, endOf, dRet, dRetN, dIf, dIfS, dB, dBin, dUn, dV, dC, sE, asB, dSeq, dSet, dPar, dPar3, dAsg, dExpr, dAnd, dOr, dNot, bAnd, bOr, bNot, dTru, dCB, dCons, dNil, dTup, dLst, dChain, dPass, fCmpI, fIsN, gTp, gsCons, gsNil, gNm, mkTup, dSl, dPart, dNoPart, lim, iLt, iLe, iGt, iGe, ix0 hS, ix1 hS, ix2 hS, len_cells, w_eq, c2]
  · refine ⟨none, i, v, s, ?_, h⟩
    simp [dA, runF, startP, endOf, dRet, dRetN, dIf, dIfS, dB, dBin, dUn, dV, dC, sE, asB, dSeq, dSet, dPar, dPar3, dAsg, dExpr, dAnd, dOr, dNot, bAnd, bOr, bNot, dTru, dCB, dCons, dNil, dTup, dLst, dChain, dPass, fCmpI, fIsN, gTp, gsCons, gsNil, gNm, mkTup, dSl, dPart, dNoPart, lim, iLt, iLe, iGt, iGe, ix2 hS, w_eq, c1]
theorem fdiv_sm {v k : Int} (h0 : 0 ≤ v) (hk : 0 < k) : 0 ≤ v.fdiv k ∧ v.fdiv k ≤ v := by
  rw [Int.fdiv_eq_ediv_of_nonneg _ (by omega)]
  exact ⟨Int.ediv_nonneg h0 (by omega), Int.ediv_le_self _ h0⟩
theorem draw_B {S : Sto} (hS : 0 < S.length) {cs : List Int} {i v s c b k : Int} {x2 : Option PV} (hk : 0 < k) (hk2 : k ≤ 1000000000000000000000000000000) (h : HB cs i v s c b) :
    (0 < v ∧ ∃ d v', dBs [some (.ref 0), some (.int k), x2, none, none] (hT S (cellsP cs) (.int i) (.int v) (.int s) (.int c)) = .rt (.int d) (hT S (cellsP cs) (.int i) (.int v') (.int s) (.int c)) ∧ 0 ≤ d ∧ d < k ∧ HB cs i v' s c b) ∨
    (v = 0 ∧ dBs [some (.ref 0), some (.int k), x2, none, none] (hT S (cellsP cs) (.int i) (.int v) (.int s) (.int c)) = .nx [some (.ref 0), some (.int k), x2, none, none] (hT S (cellsP cs) (.int i) (.int v) (.int s) (.int c))) := by
  have m : ∀ S, fMod (.int v) (.int k) S = .ok (.int (v.fmod k)) S := fun S => mod_sm hk
  have d : ∀ S, fDiv (.int v) (.int k) S = .ok (.int (v.fdiv k)) S := fun S => div_sm hk (Nat.le_trans (show k.natAbs ≤ 1000000000000000000000000000000 by omega) (by decide +kernel))
  by_cases hv : 0 < v
  · refine .inl ⟨hv, v.fmod k, v.fdiv k, ?_, (fmod_pos hk).1, (fmod_pos hk).2, ⟨h.cs, h.i, (fdiv_sm h.v0 hk).1, Nat.le_trans (log2_mono (by have := fdiv_sm h.v0 hk; omega)) h.v1, h.s0, h.s1, h.c0, h.c1⟩⟩
    simp [dBs, runF, startP, endOf, dRet, dRetN, dIf, dIfS, dB, dBin, dUn, dV, dC, sE, asB, dSeq, dSet, dPar, dPar3, dAsg, dExpr, dAnd, dOr, dNot, bAnd, bOr, bNot, dTru, dCB, dCons, dNil, dTup, dLst, dChain, dPass, fCmpI, fIsN, gTp, gsCons, gsNil, gNm, mkTup, dSl, dPart, dNoPart, lim, iLt, iLe, iGt, iGe, ix2 hS, hv, w_int, m, d, gIx, st2 hS]
  · have e : v = 0 := by have := h.v0; omega
    refine .inr ⟨e, ?_⟩
    simp [dBs, runF, startP, endOf, dRet, dRetN, dIf, dIfS, dB, dBin, dUn, dV, dC, sE, asB, dSeq, dSet, dPar, dPar3, dAsg, dExpr, dAnd, dOr, dNot, bAnd, bOr, bNot, dTru, dCB, dCons, dNil, dTup, dLst, dChain, dPass, fCmpI, fIsN, gTp, gsCons, gsNil, gNm, mkTup, dSl, dPart, dNoPart, lim, iLt, iLe, iGt, iGe, ix2 hS, e]
theorem draw_C {S : Sto} (hS : 0 < S.length) {cs : List Int} {i v s c b k : Int} {x2 : Option PV} (hk : 0 < k) (hb : b ≤ 1000000000) (h : HB cs i v s c b) :
    ∃ d, endOf (dCs [some (.ref 0), some (.int k), x2, none, none] (hT S (cellsP cs) (.int i) (.int v) (.int s) (.int c))) = .ok (.int d) (hT S (cellsP cs) (.int i) (.int v) (.int s) (.int (c + 1))) ∧ 0 ≤ d ∧ d < k ∧ HB cs i v s (c + 1) (b + 1) := by
  have hc := h.c0
  have hc1 := h.c1
  have hs0 := h.s0
  have hs1 := h.s1
  have m1 : ∀ S, fMul false (.int 7919) (.int (c + 1)) S = .ok (.int (7919 * (c + 1))) S := fun S => mul_sm (by decide +kernel) (big40 (by omega) (by omega))
  have m2 : ∀ S, fMul false (.int (s + 7919 * (c + 1))) (.int 40692) S = .ok (.int ((s + 7919 * (c + 1)) * 40692)) S := fun S => mul_sm (big40 (by omega) (by omega)) (by decide +kernel)
  have md : ∀ (S : Sto) (j m : Int), 0 < m → fMod (.int j) (.int m) S = .ok (.int (j.fmod m)) S := fun S j m hm => mod_sm hm
  obtain ⟨a0, a1⟩ := fmod_pos (i := (s + 7919 * (c + 1)) * 40692) (m := 2147483647) (by decide)
  generalize hx : ((s + 7919 * (c + 1)) * 40692).fmod 2147483647 = x at a0 a1
  have dd : ∀ (S : Sto) (j m : Int), 0 < m → m ≤ 1000000 → fDiv (.int j) (.int m) S = .ok (.int (j.fdiv m)) S := fun S j m h1 h2 => div_sm h1 (big40 (by omega) (by omega))
  have x0 := fdiv_sm a0 (k := 1009) (by decide)
  have m3 : ∀ S, fMul false (.int x) (.int (x.fdiv 1009 + 69621)) S = .ok (.int (x * (x.fdiv 1009 + 69621))) S := fun S => mul_sm (big40 a0 (by omega)) (big40 (by omega) (by omega))
  obtain ⟨b0, b1⟩ := fmod_pos (i := x * (x.fdiv 1009 + 69621)) (m := 2147483647) (by decide)
  generalize hy : (x * (x.fdiv 1009 + 69621)).fmod 2147483647 = y at b0 b1
  have y0 := fdiv_sm b0 (k := 2003) (by decide)
  have m4 : ∀ S, fMul false (.int y) (.int (y.fdiv 2003 + 40014)) S = .ok (.int (y * (y.fdiv 2003 + 40014))) S := fun S => mul_sm (big40 b0 (by omega)) (big40 (by omega) (by omega))
  obtain ⟨c0, c1⟩ := fmod_pos (i := y * (y.fdiv 2003 + 40014)) (m := 2147483563) (by decide)
  generalize hz : (y * (y.fdiv 2003 + 40014)).fmod 2147483563 = z at c0 c1
  refine ⟨(z.fdiv 16).fmod k, ?_, (fmod_pos hk).1, (fmod_pos hk).2, ⟨h.cs, h.i, h.v0, h.v1, h.s0, h.s1, by omega, by omega⟩⟩
  have q1 := fun S => md S ((s + 7919 * (c + 1)) * 40692) 2147483647 (by decide)
  rw [hx] at q1
  have q2 := fun S => md S (x * (x.fdiv 1009 + 69621)) 2147483647 (by decide)
  rw [hy] at q2
  have q3 := fun S => md S (y * (y.fdiv 2003 + 40014)) 2147483563 (by decide)
  rw [hz] at q3
  have q4 := fun S => md S (z.fdiv 16) k hk
  have r1 := fun S => dd S x 1009 (by decide) (by decide)
  have r2 := fun S => dd S y 2003 (by decide) (by decide)
  have r3 := fun S => dd S z 16 (by decide) (by decide)
  simp [dCs, runF, startP, endOf, dRet, dRetN, dIf, dIfS, dB, dBin, dUn, dV, dC, sE, asB, dSeq, dSet, dPar, dPar3, dAsg, dExpr, dAnd, dOr, dNot, bAnd, bOr, bNot, dTru, dCB, dCons, dNil, dTup, dLst, dChain, dPass, fCmpI, fIsN, gTp, gsCons, gsNil, gNm, mkTup, dSl, dPart, dNoPart, lim, iLt, iLe, iGt, iGe, ix3 hS, ix4 hS, gIx, st4 hS, w_add, m1, m2, m3, m4, q1, q2, q3, q4, r1, r2, r3, w_int]
/-- the hand stands in the store -/
def Hk (b : Int) (S : Sto) : Prop := ∃ cs i v s c, S[0]? = some (SO.lst [cellsP cs, .int i, .int v, .int s, .int c]) ∧ HB cs i v s c b
theorem Hk.mono {b b' : Int} {S : Sto} (h : Hk b S) (hb : b ≤ b') : Hk b' S := by
  obtain ⟨cs, i, v, s, c, e, k⟩ := h
  exact ⟨cs, i, v, s, c, e, ⟨k.cs, k.i, k.v0, k.v1, k.s0, k.s1, k.c0, by have := k.c1; omega⟩⟩
theorem Hk.more {b : Int} {S : Sto} (h : Hk b S) (l : List SO) : Hk b (S ++ l) := by
  obtain ⟨cs, i, v, s, c, e, k⟩ := h
  exact ⟨cs, i, v, s, c, by rw [List.getElem?_append_left (List.getElem?_eq_some_iff.mp e).1]; exact e, k⟩
theorem hT_self {S : Sto} {a b c d e : PV} (h : S[0]? = some (SO.lst [a, b, c, d, e])) : S = hT S a b c d e := by
  unfold hT
  cases S with
  | nil => cases h
  | cons x r =>
    simp at h
    rw [h]
    rfl
theorem e_draw {b k : Int} {S : Sto} (h : Hk b S) (hk : 0 < k) (hk2 : k ≤ 1000000000000000000000000000000) (hb : b ≤ 1000000000) : ∃ d S', F_law_draw_L [.ref 0, .int k] S = .ok (.int d) S' ∧ 0 ≤ d ∧ d < k ∧ Hk (b + 1) S' := by
  obtain ⟨cs, i, v, s, c, e, q⟩ := h
  have hS : 0 < S.length := (List.getElem?_eq_some_iff.mp e).1
  rw [hT_self e]
  obtain ⟨x2, i', v', s', hA, q'⟩ := draw_A (k := k) hS q
  have at_ : ∀ {i v s c : Int} {b' : Int}, HB cs i v s c b' → Hk b' (hT S (cellsP cs) (.int i) (.int v) (.int s) (.int c)) := fun {i v s c b'} q => ⟨cs, i, v, s, c, hT_get hS, q⟩
  have step : F_law_draw_L [.ref 0, .int k] (hT S (cellsP cs) (.int i) (.int v) (.int s) (.int c)) = endOf (match dA [some (.ref 0), some (.int k), none, none, none] (hT S (cellsP cs) (.int i) (.int v) (.int s) (.int c)) with
    | .nx ρ' S' => (match dBs ρ' S' with | .nx ρ' S' => dCs ρ' S' | r => r)
    | r => r) := rfl
  rw [step, hA]
  simp only
  rcases draw_B (x2 := x2) hS hk hk2 q' with ⟨_, d, v2, hB, d0, d1, q2⟩ | ⟨_, hB⟩
  · rw [hB]
    exact ⟨d, _, rfl, d0, d1, (at_ q2).mono (by omega)⟩
  · rw [hB]
    obtain ⟨d, hC, d0, d1, q3⟩ := draw_C (x2 := x2) hS hk hb q'
    simp only
    rw [hC]
    exact ⟨d, _, rfl, d0, d1, at_ q3⟩
theorem len_nl {xs : List PV} {S : Sto} : fLen [.nl xs] S = .ok (.int xs.length) S := rfl
theorem lcP_draw {α β γ : Type} {f : PV → EnP → Option EnP} {de : EnP → Sto → Res PV} {ρ : EnP} (enc : α → PV) (e : β → PV) (P : α → Prop) (Q : β → Prop) (key : β → γ) (key' : α → γ) (k : Nat)
    (h : ∀ (x : α) (S : Sto) (b : Int), P x → Hk b S → b ≤ 999990000 → ∃ ρ1 y S', f (enc x) ρ = some ρ1 ∧ de ρ1 S = .ok (e y) S' ∧ Q y ∧ key y = key' x ∧ Hk (b + k) S') :
    ∀ (xs : List α) (acc : List PV) (S : Sto) (b : Int), (∀ x ∈ xs, P x) → Hk b S → b + k * xs.length ≤ 999990000 → acc.length + xs.length ≤ 1000 →
      ∃ (ys : List β) (S' : Sto), lcP f dYes de ρ (xs.map enc) acc S = .ok (acc ++ ys.map e) S' ∧ (∀ y ∈ ys, Q y) ∧ ys.map key = xs.map key' ∧ Hk (b + k * xs.length) S'
  | [], acc, S, b, _, hS, _, _ => ⟨[], S, by simp [lcP], by simp, rfl, by simpa using hS⟩
  | x :: xs, acc, S, b, hP, hS, hb, hl => by
    rw [List.length_cons] at hb hl
    have e0 : (k : Int) * ((xs.length + 1 : Nat) : Int) = k * xs.length + k := by rw [Int.natCast_add, Int.mul_add]; simp
    rw [e0] at hb
    have kn : 0 ≤ (k : Int) * (xs.length : Int) := Int.mul_nonneg (by omega) (by omega)
    obtain ⟨ρ1, y, S1, e1, e2, q, ky, h1⟩ := h x S b (hP x List.mem_cons_self) hS (by omega)
    obtain ⟨ys, S2, e3, q3, k3, h3⟩ := lcP_draw enc e P Q key key' k h xs (acc ++ [e y]) S1 (b + k) (fun z hz => hP z (List.mem_cons_of_mem _ hz)) h1 (by omega) (by simp; omega)
    refine ⟨y :: ys, S2, ?_, ?_, ?_, ?_⟩
    · rw [List.map_cons, lcP]
      simp only [e1, dYes, e2]
      rw [if_pos (by unfold lim; omega), e3]
      simp
    · intro z hz
      rcases List.mem_cons.mp hz with rfl | hz
      · exact q
      · exact q3 z hz
    · rw [List.map_cons, List.map_cons, ky, k3]
    · rw [List.length_cons, e0]
      have : b + (k * xs.length + k) = b + k + k * xs.length := by omega
      rw [this]
      exact h3
theorem upTo_map (n : Nat) : Mi.upTo 0 n = (List.range n).map fun (i : Nat) => PV.int (i : Int) := by
  unfold Mi.upTo
  congr 1
  funext i
  simp
theorem e_any {b : Int} {S : Sto} {xs : List PV} (h : Hk b S) (hb : b ≤ 999999000) (hx : 0 < xs.length) (hx2 : xs.length ≤ 1000) : ∃ y ∈ xs, ∃ S', F_law_any_L [.ref 0, .nl xs] S = .ok y S' ∧ Hk (b + 1) S' := by
  obtain ⟨d, S1, e1, a1, b1, k1⟩ := e_draw (k := xs.length) h (by omega) (by omega) (by omega)
  have hl : d.toNat < xs.length := by omega
  refine ⟨xs[d.toNat], List.getElem_mem hl, S1, ?_, k1⟩
  have e : atI xs d = some xs[d.toNat] := by
    unfold atI ixN
    rw [if_pos a1, if_pos (by omega)]
    simp [hl]
  have e2 : fIx (.nl xs) (.int d) S1 = .ok xs[d.toNat] S1 := by
    show (match atI xs d with | some v => Res.ok v S1 | none => .bad) = _
    rw [e]
  simp [F_law_any_L, d_law_any_L, runF, startP, endOf, dRet, dRetN, dIf, dIfS, dB, dBin, dUn, dV, dC, sE, asB, dSeq, dSet, dPar, dPar3, dAsg, dExpr, dAnd, dOr, dNot, bAnd, bOr, bNot, dTru, dCB, dCons, dNil, dTup, dLst, dChain, dPass, fCmpI, fIsN, gTp, gsCons, gsNil, gNm, mkTup, dSl, dPart, dNoPart, lim, iLt, iLe, iGt, iGe, len_nl, e1, e2]
end G04
end
section
set_option Elab.async false
set_option linter.all false
set_option maxRecDepth 100000
set_option maxHeartbeats 1000000
namespace G04
open PySem PySem.Spec PyProof.Rows L2 Mi Ra
theorem cut63 {xs : List PV} (h : xs.length ≤ 63) : cutP xs none (some 63) = xs := by
  unfold cutP
  have a : HT.sIx xs.length 0 none = 0 := rfl
  have b : HT.sIx xs.length xs.length (some 63) = min 63 xs.length := HT.sIx_nat _ _ 63
  rw [a, b, List.drop_zero, Nat.sub_zero, Nat.min_eq_right h, List.take_length]
theorem e_hand {ns : List Int} (h : ns.length ≤ 63) (hb : ∀ z ∈ ns, Builtin.Int.intBits z ≤ 1048576) : ∃ S', F_law_hand_L [.fl (ns.map .int)] [] = .ok (.ref 0) S' ∧ Hk 0 S' := by
  have e0 : iSeq (dSl false (dV 0) (dNoPart) (dPart (dC (.int 63)))) [some (.fl (ns.map .int)), none, none] [] = .ok (ns.map PV.int) [] := by
    have c : fSl false (.fl (ns.map PV.int)) none (some 63) [] = .ok (.nl (ns.map PV.int)) [] := by
      show mkLst false (cutP (ns.map PV.int) none (some 63)) [] = _
      rw [cut63 (by simpa using h)]
      unfold mkLst
      rw [if_pos (by simp [lim]; omega)]
      rfl
    simp [iSeq, runF, startP, endOf, dRet, dRetN, dIf, dIfS, dB, dBin, dUn, dV, dC, sE, asB, dSeq, dSet, dPar, dPar3, dAsg, dExpr, dAnd, dOr, dNot, bAnd, bOr, bNot, dTru, dCB, dCons, dNil, dTup, dLst, dChain, dPass, fCmpI, fIsN, gTp, gsCons, gsNil, gNm, mkTup, dSl, dPart, dNoPart, lim, iLt, iLe, iGt, iGe, c]
    try rfl
  have pw : ∀ S, fPow (.int 10) (.int 36) S = .ok (.int (10 ^ 36)) S := fun S => pow_sm (by decide)
  have lc := dLc_map (f := cNm 2) (de := dBin fMod (dCB fInt (dCons (dCB fAbs (dCons (dCB fInt (dCons (dV 2) (dNil))) (dNil))) (dNil))) (dBin fPow (dC (.int 10)) (dC (.int 36)))) (ρ := [some (.fl (ns.map .int)), none, none]) (vs := [2]) PV.int (fun i => PV.int (Int.fmod (if i < 0 then -i else i) (10 ^ 36))) (fun _ => True) e0 (fun x _ => ⟨_, rfl, fun S => by
    show (((Res.ok (PV.int (if x < 0 then -x else x)) S).bind fun a S1 => ((fPow (.int 10) (.int 36) S1).bind fun b S2 => fMod a b S2))) = _
    rw [Res.bind_ok, pw, Res.bind_ok]
    show (if ((10 : Int) ^ 36) ≠ 0 then Res.ok (PV.int (Int.fmod (if x < 0 then -x else x) (10 ^ 36))) S else .bad) = _
    rw [if_pos (by decide)]⟩) (fun _ _ => trivial) (by unfold lim; omega)
  have m5 : ∀ S, fMul false (.int 499) (.int (ns.length : Int)) S = .ok (.int (499 * (ns.length : Int))) S := fun S => mul_sm (by decide +kernel) (big40 (by omega) (by omega))
  refine ⟨[SO.lst [cellsP (ns.map fun i => Int.fmod (if i < 0 then -i else i) (10 ^ 36)), .int 0, .int 0, .int (641 + 499 * (ns.length : Int)), .int 0]], ?_, _, 0, 0, _, 0, rfl, ⟨?_, by omega, by omega, by decide, by omega, by omega, by omega, by omega⟩⟩
  · have c : (ns.map fun i => PV.int (Int.fmod (if i < 0 then -i else i) (10 ^ 36))) = (ns.map fun i => Int.fmod (if i < 0 then -i else i) (10 ^ 36)).map PV.int := by rw [List.map_map]; rfl
    rw [c] at lc
    have ln : ∀ S, fLen [PV.nl ((ns.map fun i => Int.fmod (if i < 0 then -i else i) (10 ^ 36)).map PV.int)] S = .ok (.int (ns.length : Int)) S := fun S => by rw [len_nl]; simp
    unfold cellsP
    generalize ((ns.map fun i => Int.fmod (if i < 0 then -i else i) (10 ^ 36)).map PV.int) = cc at lc ln
    simp [F_law_hand_L, d_law_hand_L, runF, startP, endOf, dRet, dRetN, dIf, dIfS, dB, dBin, dUn, dV, dC, sE, asB, dSeq, dSet, dPar, dPar3, dAsg, dExpr, dAnd, dOr, dNot, bAnd, bOr, bNot, dTru, dCB, dCons, dNil, dTup, dLst, dChain, dPass, fCmpI, fIsN, gTp, gsCons, gsNil, gNm, mkTup, dSl, dPart, dNoPart, lim, iLt, iLe, iGt, iGe, lc, ln, m5, w_add, mkLst]
  · intro x hx
    obtain ⟨i, _, rfl⟩ := List.mem_map.mp hx
    have q := fmod_pos (i := if i < 0 then -i else i) (m := (10 : Int) ^ 36) (by decide)
    have s : ((if i < 0 then -i else i).fmod (10 ^ 36)).natAbs ≤ 2 ^ 4000 := big40 q.1 (Int.lt_trans q.2 (by decide))
    have := log2_sm s
    exact ⟨q.1, by omega⟩
end G04
end
section
set_option Elab.async false
set_option linter.all false
set_option maxRecDepth 100000
set_option maxHeartbeats 1000000
set_option exponentiation.threshold 5000
namespace G04
open PySem PySem.Spec PyProof.Rows L2 Mi Ra
/-! ### the law's own words (k03, k04, k05) -/
def lwC : EnP → Sto → Res Bool := (dB (dBin (fCmpI iGt) (dV 3) (dC (.int 0))))
def lwB : EnP → Sto → SR := (dPar 2 3 (dCons (dV 3) (dCons (dBin fMod (dCB fInt (dCons (dV 2) (dNil))) (dV 3)) (dNil))))
theorem lw_loop {a0 a1 a4 : Option PV} (n : Nat) : ∀ (a b : Nat) (S : Sto), b < n → whileP lwC lwB n [a0, a1, some (.int a), some (.int b), a4] S = .nx [a0, a1, some (.int (Nat.gcd a b)), some (.int 0), a4] S := by
  induction n with
  | zero => intro a b S h; omega
  | succ n ih =>
    intro a b S h
    rw [whileP]
    by_cases hb : b = 0
    · subst hb
      simp [lwC, runF, startP, endOf, dRet, dRetN, dIf, dIfS, dB, dBin, dUn, dV, dC, sE, asB, dSeq, dSet, dPar, dPar3, dAsg, dExpr, dAnd, dOr, dNot, bAnd, bOr, bNot, dTru, dCB, dCons, dNil, dTup, dLst, dChain, dPass, fCmpI, fIsN, gTp, gsCons, gsNil, gNm, mkTup, dSl, dPart, dNoPart, lim, iLt, iLe, iGt, iGe]
    · have hp : (0 : Int) < (b : Int) := by omega
      have e : fMod (.int a) (.int b) S = .ok (.int ((a % b : Nat) : Int)) S := by rw [mod_sm hp, fmod_nat]
      have lt := Nat.mod_lt a (by omega : 0 < b)
      have step := ih b (a % b) S (by omega)
      have hg : Nat.gcd b (a % b) = Nat.gcd a b := by rw [Nat.gcd_comm a b, Nat.gcd_rec b a, Nat.gcd_comm]
      have c : lwC [a0, a1, some (.int a), some (.int b), a4] S = .ok true S := by simp [lwC, runF, startP, endOf, dRet, dRetN, dIf, dIfS, dB, dBin, dUn, dV, dC, sE, asB, dSeq, dSet, dPar, dPar3, dAsg, dExpr, dAnd, dOr, dNot, bAnd, bOr, bNot, dTru, dCB, dCons, dNil, dTup, dLst, dChain, dPass, fCmpI, fIsN, gTp, gsCons, gsNil, gNm, mkTup, dSl, dPart, dNoPart, lim, iLt, iLe, iGt, iGe, hp]; omega
      have d : lwB [a0, a1, some (.int a), some (.int b), a4] S = .nx [a0, a1, some (.int b), some (.int ((a % b : Nat) : Int)), a4] S := by
        simp only [lwB, runF, startP, endOf, dRet, dRetN, dIf, dIfS, dB, dBin, dUn, dV, dC, sE, asB, dSeq, dSet, dPar, dPar3, dAsg, dExpr, dAnd, dOr, dNot, bAnd, bOr, bNot, dTru, dCB, dCons, dNil, dTup, dLst, dChain, dPass, fCmpI, fIsN, gTp, gsCons, gsNil, gNm, mkTup, dSl, dPart, dNoPart, lim, iLt, iLe, iGt, iGe, List.getElem?_cons_succ, List.getElem?_cons_zero, Res.bind_ok, w_int, e, List.set_cons_zero, List.set_cons_succ]
      rw [c]
      simp only [sE, if_true, d, step, hg]
theorem l_low {a b : Int} {S : Sto} (hb : 0 < b) (ha : a.natAbs ≤ 2 ^ 4000) (h : b.natAbs ≤ 10 ^ 601) : F_law_low_L [.int a, .int b] S = .ok (eQ (Rat.divInt a b)) S := by
  have ab : ∀ i : Int, (if i < 0 then -i else i) = (i.natAbs : Int) := fun i => by split <;> omega
  have l := fun S => lw_loop (a0 := some (.int a)) (a1 := some (.int b)) (a4 := none) fuel a.natAbs b.natAbs S (fuel_big h)
  have gg : ((Nat.gcd a.natAbs b.natAbs : Nat) : Int) = ((Int.gcd a b : Nat) : Int) := rfl
  rw [gg] at l
  have nab : ((b.natAbs : Nat) : Int) = b := by omega
  rw [nab] at l
  obtain ⟨g0, g1⟩ := gcd_sm (a := a) (by omega) h
  have dv : ∀ i S, fDiv (.int i) (.int ((Int.gcd a b : Nat) : Int)) S = .ok (.int (i.fdiv ((Int.gcd a b : Nat) : Int))) S := fun i S => div_sm g0 g1
  have e : PV.tup [.int (a.fdiv (Int.gcd a b)), .int (b.fdiv (Int.gcd a b))] = eQ (Rat.divInt a b) := by
    unfold eQ; rw [num_div hb, den_div hb]
  have m1 := fun S => mul_sm (S := S) (i := 1) (j := a) (by decide +kernel) ha
  have m2 := fun S => mul_sm (S := S) (i := 1) (j := b) (by decide +kernel) (le4000 h)
  have nb : ¬ b < 0 := by omega
  have dd : d_law_low_L = dSeq (dPar 2 3 (dCons (dCB fAbs (dCons (dV 0) (dNil))) (dCons (dCB fAbs (dCons (dV 1) (dNil))) (dNil)))) (dSeq (whileP lwC lwB fuel) (dSeq (dSet 4 (dIf (dB (dBin (fCmpI iGt) (dV 1) (dC (.int 0)))) (dC (.int 1)) (dUn fNeg (dC (.int 1))))) (dRet (dTup (dCons (dBin fDiv (dBin (fMul false) (dV 4) (dV 0)) (dV 2)) (dCons (dBin fDiv (dBin (fMul false) (dV 4) (dV 1)) (dV 2)) (dNil))))))) := rfl
  simp [F_law_low_L, dd, runF, startP, endOf, dRet, dRetN, dIf, dIfS, dB, dBin, dUn, dV, dC, sE, asB, dSeq, dSet, dPar, dPar3, dAsg, dExpr, dAnd, dOr, dNot, bAnd, bOr, bNot, dTru, dCB, dCons, dNil, dTup, dLst, dChain, dPass, fCmpI, fIsN, gTp, gsCons, gsNil, gNm, mkTup, dSl, dPart, dNoPart, lim, iLt, iLe, iGt, iGe, w_abs, ab, nab, l, hb, nb, m1, m2, dv, e, w_neg]
theorem dd_pos (x y : Rat) : 0 < (x.den : Int) * (y.den : Int) := Int.mul_pos (den_p x) (den_p y)
theorem pr4000 {a b : Int} (ha : a.natAbs ≤ 10 ^ 600) (hb : b.natAbs ≤ 10 ^ 600) : (a * b).natAbs ≤ 10 ^ 1200 := Nat.le_trans (mul_abs ha hb) (by decide +kernel)
theorem n6 {x : Rat} (h : Ok x) : x.num.natAbs ≤ 10 ^ 300 := Nat.le_of_lt h.n
theorem d6 {x : Rat} (h : Ok x) : (x.den : Int).natAbs ≤ 10 ^ 300 := by rw [Int.natAbs_natCast]; exact Nat.le_of_lt h.d
theorem pr_ok {a b : Int} (ha : a.natAbs ≤ 10 ^ 300) (hb : b.natAbs ≤ 10 ^ 300) : (a * b).natAbs ≤ 2 ^ 4000 := Nat.le_trans (mul_abs ha hb) (by decide +kernel)
theorem l_plus {x y : Rat} {S : Sto} (hx : Ok x) (hy : Ok y) : F_law_plus_L [eQ x, eQ y] S = .ok (eQ (x + y)) S := by
  have s1 := mul_abs (n6 hx) (d6 hy)
  have s2 := mul_abs (n6 hy) (d6 hx)
  have sa : (x.num * (y.den : Int) + y.num * (x.den : Int)).natAbs ≤ 2 ^ 4000 := Nat.le_trans (Int.natAbs_add_le _ _) (Nat.le_trans (Nat.add_le_add s1 s2) (by decide +kernel))
  have m := fun S => l_low (a := x.num * y.den + y.num * x.den) (b := x.den * y.den) (S := S) (dd_pos x y) sa (dd_lim hx hy)
  rw [add_is] at m
  have a1 := fun S => mul_sm (S := S) (sm_n hx) (sm_d hy)
  have a2 := fun S => mul_sm (S := S) (sm_n hy) (sm_d hx)
  have a3 := fun S => mul_sm (S := S) (sm_d hx) (sm_d hy)
  simp [F_law_plus_L, d_law_plus_L, runF, startP, endOf, dRet, dRetN, dIf, dIfS, dB, dBin, dUn, dV, dC, sE, asB, dSeq, dSet, dPar, dPar3, dAsg, dExpr, dAnd, dOr, dNot, bAnd, bOr, bNot, dTru, dCB, dCons, dNil, dTup, dLst, dChain, dPass, fCmpI, fIsN, gTp, gsCons, gsNil, gNm, mkTup, dSl, dPart, dNoPart, lim, iLt, iLe, iGt, iGe, ix_q0, ix_q1, a1, a2, a3, w_add, m]
theorem q_neg (x : Rat) : PV.tup [.int (-x.num), .int x.den] = eQ (-x) := by unfold eQ; rw [Rat.neg_num, Rat.neg_den]
theorem okn {x : Rat} (h : Ok x) : Ok (-x) := ⟨by rw [Rat.neg_num, Int.natAbs_neg]; exact h.n, by rw [Rat.neg_den]; exact h.d⟩
theorem l_less {x y : Rat} {S : Sto} (hx : Ok x) (hy : Ok y) : F_law_less_L [eQ x, eQ y] S = .ok (eQ (x - y)) S := by
  have z : (0 : Int) - y.num = -y.num := by omega
  have p := fun S => l_plus (S := S) hx (okn hy)
  have e : x + -y = x - y := by grind
  rw [e] at p
  simp [F_law_less_L, d_law_less_L, runF, startP, endOf, dRet, dRetN, dIf, dIfS, dB, dBin, dUn, dV, dC, sE, asB, dSeq, dSet, dPar, dPar3, dAsg, dExpr, dAnd, dOr, dNot, bAnd, bOr, bNot, dTru, dCB, dCons, dNil, dTup, dLst, dChain, dPass, fCmpI, fIsN, gTp, gsCons, gsNil, gNm, mkTup, dSl, dPart, dNoPart, lim, iLt, iLe, iGt, iGe, ix_q0, ix_q1, w_sub, z, q_neg, p]
theorem l_times {x y : Rat} {S : Sto} (hx : Ok x) (hy : Ok y) : F_law_times_L [eQ x, eQ y] S = .ok (eQ (x * y)) S := by
  have m := fun S => l_low (a := x.num * y.num) (b := x.den * y.den) (S := S) (dd_pos x y) (pr_ok (n6 hx) (n6 hy)) (dd_lim hx hy)
  rw [mul_is] at m
  have a3 := fun S => mul_sm (S := S) (sm_d hx) (sm_d hy)
  have a4 := fun S => mul_sm (S := S) (sm_n hx) (sm_n hy)
  simp [F_law_times_L, d_law_times_L, runF, startP, endOf, dRet, dRetN, dIf, dIfS, dB, dBin, dUn, dV, dC, sE, asB, dSeq, dSet, dPar, dPar3, dAsg, dExpr, dAnd, dOr, dNot, bAnd, bOr, bNot, dTru, dCB, dCons, dNil, dTup, dLst, dChain, dPass, fCmpI, fIsN, gTp, gsCons, gsNil, gNm, mkTup, dSl, dPart, dNoPart, lim, iLt, iLe, iGt, iGe, ix_q0, ix_q1, a3, a4, m]
theorem l_over {x y : Rat} {S : Sto} (hx : Ok x) (hy : Ok y) (h0 : 0 < y) : F_law_over_L [eQ x, eQ y] S = .ok (eQ (x / y)) S := by
  have m := fun S => l_low (a := x.num * y.den) (b := x.den * y.num) (S := S) (Int.mul_pos (den_p x) (num_pos.mpr h0)) (pr_ok (n6 hx) (d6 hy)) (dn_lim hx hy)
  rw [div_is] at m
  have a3 := fun S => mul_sm (S := S) (sm_d hx) (sm_n hy)
  have a4 := fun S => mul_sm (S := S) (sm_n hx) (sm_d hy)
  simp [F_law_over_L, d_law_over_L, runF, startP, endOf, dRet, dRetN, dIf, dIfS, dB, dBin, dUn, dV, dC, sE, asB, dSeq, dSet, dPar, dPar3, dAsg, dExpr, dAnd, dOr, dNot, bAnd, bOr, bNot, dTru, dCB, dCons, dNil, dTup, dLst, dChain, dPass, fCmpI, fIsN, gTp, gsCons, gsNil, gNm, mkTup, dSl, dPart, dNoPart, lim, iLt, iLe, iGt, iGe, ix_q0, ix_q1, a3, a4, m]
theorem l_size {x : Rat} {S : Sto} : F_law_size_L [eQ x] S = .ok (eQ x.abs) S := by
  have e : PV.tup [.int (if x.num < 0 then -x.num else x.num), .int x.den] = eQ x.abs := by
    unfold eQ
    rw [abs_num, abs_den]
  simp [F_law_size_L, d_law_size_L, runF, startP, endOf, dRet, dRetN, dIf, dIfS, dB, dBin, dUn, dV, dC, sE, asB, dSeq, dSet, dPar, dPar3, dAsg, dExpr, dAnd, dOr, dNot, bAnd, bOr, bNot, dTru, dCB, dCons, dNil, dTup, dLst, dChain, dPass, fCmpI, fIsN, gTp, gsCons, gsNil, gNm, mkTup, dSl, dPart, dNoPart, lim, iLt, iLe, iGt, iGe, ix_q0, ix_q1, w_abs, e]
/-- short enough to be told apart -/
structure W4 (x : Rat) : Prop where
  n : x.num.natAbs ≤ 2 ^ 4000
  d : (x.den : Int).natAbs ≤ 2 ^ 4000
theorem w4 {x : Rat} (h : Ok x) : W4 x := ⟨sm_n h, sm_d h⟩
theorem l_is_most {x y : Rat} {S : Sto} (hx : W4 x) (hy : W4 y) : F_law_is_most_L [eQ x, eQ y] S = .ok (.bl (decide (x ≤ y))) S := by
  have a1 := fun S => mul_sm (S := S) hx.n hy.d
  have a2 := fun S => mul_sm (S := S) hy.n hx.d
  have e : decide (x.num * (y.den : Int) ≤ y.num * (x.den : Int)) = decide (x ≤ y) := decide_eq_decide.mpr le_iff
  simp [F_law_is_most_L, d_law_is_most_L, runF, startP, endOf, dRet, dRetN, dIf, dIfS, dB, dBin, dUn, dV, dC, sE, asB, dSeq, dSet, dPar, dPar3, dAsg, dExpr, dAnd, dOr, dNot, bAnd, bOr, bNot, dTru, dCB, dCons, dNil, dTup, dLst, dChain, dPass, fCmpI, fIsN, gTp, gsCons, gsNil, gNm, mkTup, dSl, dPart, dNoPart, lim, iLt, iLe, iGt, iGe, ix_q0, ix_q1, a1, a2, e]
theorem l_power {b : Nat} {e : Int} {S : Sto} (hb : 0 < b) (hb2 : b ≤ 16) (he : e.natAbs ≤ 1000) : F_law_power_L [.int b, .int e] S = .ok (eQ (pw b e)) S := by
  have le : 1 * b ^ e.natAbs ≤ 2 ^ 4000 := by
    rw [Nat.one_mul]
    exact Nat.le_trans (Nat.pow_le_pow_left hb2 _) (Nat.le_trans (Nat.pow_le_pow_right (by decide) he) (by decide +kernel))
  obtain ⟨t', l⟩ := pw_loop b (Mi.upTo 0 e.natAbs) 1 (some (.int e)) none S (by simpa [Mi.upTo] using le) hb (by omega)
  have lu : (Mi.upTo 0 e.natAbs).length = e.natAbs := by simp [Mi.upTo]
  rw [lu, Nat.one_mul] at l
  have ab : (if e < 0 then -e else e) = (e.natAbs : Int) := by split <;> omega
  have r : iRange (dCons (dCB fAbs (dCons (dV 1) (dNil))) (dNil)) [some (.int b), some (.int e), some (.int 1), none] S = .ok (Mi.upTo 0 e.natAbs) S := by
    show (if -1000000 ≤ (if e < 0 then -e else e) ∧ (if e < 0 then -e else e) ≤ 1000000 then Res.ok (Mi.upTo 0 (if e < 0 then -e else e).toNat) S else .bad) = _
    rw [ab, if_pos (by omega)]
    rfl
  have l' : forP (gNm 3) (dSet 2 (dBin (fMul false) (dV 2) (dV 0))) (Mi.upTo 0 e.natAbs) [some (.int b), some (.int e), some (.int 1), none] S = _ := l
  by_cases h : 0 ≤ e
  · have p := pw_nn (b := b) h
    have q : PV.tup [.int ((b ^ e.natAbs : Nat) : Int), .int 1] = eQ (pw b e) := by unfold eQ; rw [p.1, p.2]; rfl
    rw [← q]
    simp [F_law_power_L, d_law_power_L, runF, startP, endOf, dRet, dRetN, dIf, dIfS, dB, dBin, dUn, dV, dC, sE, asB, dSeq, dSet, dPar, dPar3, dAsg, dExpr, dAnd, dOr, dNot, bAnd, bOr, bNot, dTru, dCB, dCons, dNil, dTup, dLst, dChain, dPass, fCmpI, fIsN, gTp, gsCons, gsNil, gNm, mkTup, dSl, dPart, dNoPart, lim, iLt, iLe, iGt, iGe, -forP, dFor, r, l', h]
  · have p := pw_ng (b := b) hb h
    have q : PV.tup [.int 1, .int ((b ^ e.natAbs : Nat) : Int)] = eQ (pw b e) := by unfold eQ; rw [p.1, p.2]
    rw [← q]
    simp [F_law_power_L, d_law_power_L, runF, startP, endOf, dRet, dRetN, dIf, dIfS, dB, dBin, dUn, dV, dC, sE, asB, dSeq, dSet, dPar, dPar3, dAsg, dExpr, dAnd, dOr, dNot, bAnd, bOr, bNot, dTru, dCB, dCons, dNil, dTup, dLst, dChain, dPass, fCmpI, fIsN, gTp, gsCons, gsNil, gNm, mkTup, dSl, dPart, dNoPart, lim, iLt, iLe, iGt, iGe, -forP, dFor, r, l', h]
theorem pw_w4 {b : Nat} {e : Int} (hb : 0 < b) (hb2 : b ≤ 16) (he : e.natAbs ≤ 1000) : W4 (pw b e) := by
  have p := pw_num hb e
  have l : b ^ e.natAbs ≤ 2 ^ 4000 := Nat.le_trans (Nat.pow_le_pow_left hb2 _) (Nat.le_trans (Nat.pow_le_pow_right (by decide) he) (by decide +kernel))
  exact ⟨Nat.le_trans p.1 l, by rw [Int.natAbs_natCast]; exact Nat.le_trans p.2 l⟩
end G04
end
section
set_option Elab.async false
set_option linter.all false
set_option maxRecDepth 100000
set_option maxHeartbeats 1000000
set_option exponentiation.threshold 5000
namespace G04
open PySem PySem.Spec PyProof.Rows L2 Mi Ra
/-! ### gaps, rounding by the law -/
def gpF : EnP → Sto → SR := (dIfS (dTru (dCB F_law_is_most_L (dCons (dCB F_law_power_L (dCons (dV 2) (dCons (dBin (fAdd false) (dV 3) (dV 6)) (dNil)))) (dCons (dCB F_law_size_L (dCons (dV 1) (dNil))) (dNil))))) (dSet 6 (dBin (fAdd false) (dV 6) (dC (.int 1)))) (dPass))
theorem gp_loop {f : Fm} {x : Rat} {a0 a4 a5 : Option PV} (hf : FmOk f) (hx : Ok x) {S : Sto} : ∀ (ys : List PV) (e : Int) (a7 : Option PV), f.k + e + ys.length ≤ 1000 → exO f x ≤ e + ys.length → f.lo ≤ e → (e = f.lo ∨ pw f.b (f.k + (e - 1)) ≤ x.abs) →
    ∃ b7, forP (gNm 7) gpF ys [a0, some (eQ x), some (.int f.b), some (.int f.k), a4, a5, some (.int e), a7] S = .nx [a0, some (eQ x), some (.int f.b), some (.int f.k), a4, a5, some (.int (exO f x)), b7] S
  | [], e, a7, hk, hx2, hlo, h2 => by
    have ex := exO_is hf hx
    have : e ≤ exO f x := by
      rcases h2 with q | q
      · have := ex.1; omega
      · by_cases z : e ≤ exO f x
        · exact z
        · have m := pw_mono (b := f.b) (by have := hf.b0; omega) (show f.k + exO f x ≤ f.k + (e - 1) by omega)
          have := ex.2.1
          grind
    have e1 : e = exO f x := by simp at hx2; omega
    exact ⟨a7, by rw [e1]; rfl⟩
  | y :: ys, e, a7, hk, hx2, hlo, h2 => by
    rw [List.length_cons] at hk hx2
    have k0 := hf.k0
    have l0 := hf.l0
    have ex := exO_is hf hx
    have p := fun S => l_power (b := f.b) (e := f.k + e) (S := S) (b_pos hf) hf.b1 (by omega)
    have m := fun S => l_is_most (S := S) (pw_w4 (b := f.b) (e := f.k + e) (b_pos hf) hf.b1 (by omega)) (w4 hx.abs)
    have s := fun S => l_size (x := x) (S := S)
    rw [forP]
    have g : gNm 7 y [a0, some (eQ x), some (.int f.b), some (.int f.k), a4, a5, some (.int e), a7] S = .ok [a0, some (eQ x), some (.int f.b), some (.int f.k), a4, a5, some (.int e), some y] S := rfl
    rw [g]
    by_cases q : pw f.b (f.k + e) ≤ x.abs
    · have d : gpF [a0, some (eQ x), some (.int f.b), some (.int f.k), a4, a5, some (.int e), some y] S = .nx [a0, some (eQ x), some (.int f.b), some (.int f.k), a4, a5, some (.int (e + 1)), some y] S := by
        simp [gpF, runF, startP, endOf, dRet, dRetN, dIf, dIfS, dB, dBin, dUn, dV, dC, sE, asB, dSeq, dSet, dPar, dPar3, dAsg, dExpr, dAnd, dOr, dNot, bAnd, bOr, bNot, dTru, dCB, dCons, dNil, dTup, dLst, dChain, dPass, fCmpI, fIsN, gTp, gsCons, gsNil, gNm, mkTup, dSl, dPart, dNoPart, lim, iLt, iLe, iGt, iGe, w_add, p, s, m, q, truP]
      obtain ⟨b7, ih⟩ := gp_loop (S := S) (a0 := a0) (a4 := a4) (a5 := a5) hf hx ys (e + 1) (some y) (by omega) (by omega) (by omega) (.inr (by rw [Int.add_sub_cancel]; exact q))
      exact ⟨b7, by simp only [sE, d]; exact ih⟩
    · have d : gpF [a0, some (eQ x), some (.int f.b), some (.int f.k), a4, a5, some (.int e), some y] S = .nx [a0, some (eQ x), some (.int f.b), some (.int f.k), a4, a5, some (.int e), some y] S := by
        simp [gpF, runF, startP, endOf, dRet, dRetN, dIf, dIfS, dB, dBin, dUn, dV, dC, sE, asB, dSeq, dSet, dPar, dPar3, dAsg, dExpr, dAnd, dOr, dNot, bAnd, bOr, bNot, dTru, dCB, dCons, dNil, dTup, dLst, dChain, dPass, fCmpI, fIsN, gTp, gsCons, gsNil, gNm, mkTup, dSl, dPart, dNoPart, lim, iLt, iLe, iGt, iGe, w_add, p, s, m, q, truP]
      have e1 : exO f x = e := exO_eq hf ⟨hlo, by grind, h2⟩
      obtain ⟨b7, ih⟩ := gp_loop (S := S) (a0 := a0) (a4 := a4) (a5 := a5) hf hx ys e (some y) (by omega) (by omega) hlo h2
      exact ⟨b7, by simp only [sE, d]; exact ih⟩
theorem l_gap80 {f : Fm} {x : Rat} {S : Sto} (hf : FmOk f) (hx : Ok x) (h80 : exO f x ≤ f.lo + 80) : F_law_gap_L [eF f, eQ x] S = .ok (eQ (gapR f x)) S := by
  have k0 := hf.k0
  have k1 := hf.k1
  have l0 := hf.l0
  have l1 := hf.l1
  obtain ⟨b7, l⟩ := gp_loop (S := S) (a0 := some (eF f)) (a4 := some (.int f.lo)) (a5 := some (.int f.hi)) hf hx (Mi.upTo 0 80) f.lo none (by unfold Mi.upTo; simp; omega) (by unfold Mi.upTo; simp; omega) (Int.le_refl _) (.inl rfl)
  have pb := ex_big hf hx
  have p := fun S => l_power (b := f.b) (e := exO f x) (S := S) (b_pos hf) hf.b1 (by omega)
  have r : ∀ ρ S, iRange (dCons (dC (.int 80)) (dNil)) ρ S = .ok (Mi.upTo 0 80) S := fun ρ S => rfl
  have dd : d_law_gap_L = dSeq (dAsg (dV 0) (gTp 4 (gsCons (gNm 2) (gsCons (gNm 3) (gsCons (gNm 4) (gsCons (gNm 5) (gsNil))))))) (dSeq (dSet 6 (dV 4)) (dSeq (dFor (iRange (dCons (dC (.int 80)) (dNil))) (gNm 7) gpF) (dRet (dCB F_law_power_L (dCons (dV 2) (dCons (dV 6) (dNil))))))) := rfl
  have eg : pw f.b (exO f x) = gapR f x := rfl
  rw [eg] at p
  unfold eF at l
  have fl : ∀ D, dFor (iRange (dCons (dC (.int 80)) (dNil))) (gNm 7) gpF D S = forP (gNm 7) gpF (Mi.upTo 0 80) D S := fun D => by
    unfold dFor
    rw [r]
    rfl
  simp [F_law_gap_L, dd, runF, startP, endOf, dRet, dRetN, dIf, dIfS, dB, dBin, dUn, dV, dC, sE, asB, dSeq, dSet, dPar, dPar3, dAsg, dExpr, dAnd, dOr, dNot, bAnd, bOr, bNot, dTru, dCB, dCons, dNil, dTup, dLst, dChain, dPass, fCmpI, fIsN, gTp, gsCons, gsNil, gNm, mkTup, dSl, dPart, dNoPart, lim, iLt, iLe, iGt, iGe, eF, fl, l, p]
theorem q_den {q : Rat} : (q.den : Int) = 1 ↔ q = (q.floor : Rat) := by
  constructor
  · intro h
    have : q.den = 1 := by omega
    have e : q = (q.num : Rat) := by
      apply Rat.ext
      · rw [Rat.num_intCast]
      · rw [Rat.den_intCast]; exact this
    rw [e, Rat.floor_intCast]
  · intro h
    rw [h, Rat.den_intCast]
    rfl
theorem fl_q (q : Rat) : q.num.fdiv (q.den : Int) = q.floor := by
  have := floor_is (a := q.num) (b := q.den) (den_p q)
  rw [self] at this
  exact this.symm
theorem ceil_q (q : Rat) : -((-q).floor) = if q = (q.floor : Rat) then q.floor else q.floor + 1 := by
  have h1 := Rat.floor_le q
  have h2 := Rat.lt_floor_add_one q
  have h3 := Rat.floor_le (-q)
  have h4 := Rat.lt_floor_add_one (-q)
  rw [cast_add1] at h2 h4
  by_cases h : q = (q.floor : Rat)
  · rw [if_pos h]
    have e : (-q).floor = -q.floor := by
      conv => lhs; rw [h, ← Rat.intCast_neg]
      rw [Rat.floor_intCast]
    rw [e]
    omega
  · rw [if_neg h]
    have a1 : (q.floor : Rat) < ((-((-q).floor) : Int) : Rat) := by rw [Rat.intCast_neg]; grind
    have a2 : ((-((-q).floor) : Int) : Rat) < ((q.floor + 2 : Int) : Rat) := by
      rw [Rat.intCast_neg, Rat.intCast_add]
      have : ((2 : Int) : Rat) = 2 := rfl
      rw [this]
      grind
    have b1 := Rat.intCast_lt_intCast.mp a1
    have b2 := Rat.intCast_lt_intCast.mp a2
    omega
end G04
end
section
set_option Elab.async false
set_option linter.all false
set_option maxRecDepth 100000
set_option maxHeartbeats 1000000
set_option exponentiation.threshold 5000
namespace G04
open PySem PySem.Spec PyProof.Rows L2 Mi Ra
theorem fl_sm {f : Fm} {x : Rat} (hf : FmOk f) (hx : Ok x) : ((x / gapR f x).floor).natAbs ≤ 10 ^ 140 := rnd_most (w := .down) hf hx
theorem q_bd {f : Fm} {x : Rat} (hf : FmOk f) (hx : Ok x) : Bd (10 ^ 300 * 10 ^ 300) (x / gapR f x) := by
  have g0 := gap_pos hf x
  exact Bd.div hx.bd (gap_ok hf hx).1.bd (by grind)
end G04
end
section
set_option Elab.async false
set_option linter.all false
set_option maxRecDepth 100000
set_option maxHeartbeats 1000000
set_option exponentiation.threshold 5000
namespace G04
open PySem PySem.Spec PyProof.Rows L2 Mi Ra
/-! ### all numbers of a small format, as the law lays them -/
structure FmS (f : Fm) : Prop where
  ok : FmOk f
  pk : f.b ^ f.k.toNat ≤ 1000
  l0 : -10 ≤ f.lo
  h1 : f.hi ≤ 10
  bb : f.b ≤ 10
theorem keyT_q (q : Rat) : keyT (eQ q) = some (kq q) := rfl
theorem putT_kq (qs : List Rat) (q : Rat) : putT (qs.map kq) (kq q) = (putQ qs q).map kq := by
  unfold putT putQ
  have : kq q ∈ qs.map kq ↔ q ∈ qs := by
    rw [List.mem_map]
    exact ⟨fun ⟨a, h, e⟩ => kq_inj e ▸ h, fun h => ⟨q, h, rfl⟩⟩
  by_cases h : q ∈ qs
  · rw [if_pos h, if_pos (this.mpr h)]
  · rw [if_neg h, if_neg (fun z => h (this.mp z)), List.map_append]
    rfl
theorem putsT_two {q : Rat} (h : q ≠ 0) : putsT [] [kq q, kq (-q)] = [kq q, kq (-q)] := by
  have n : ¬ kq (-q) ∈ [kq q] := fun z => by
    have := kq_inj (List.mem_singleton.mp z)
    grind
  show putT (putT [] (kq q)) (kq (-q)) = _
  have e : putT [] (kq q) = [kq q] := by unfold putT; rw [if_neg (by simp)]; rfl
  rw [e]
  unfold putT
  rw [if_neg n]
  rfl
theorem putsT_both (qs : List Rat) (q : Rat) : putsT (qs.map kq) [kq q, kq (-q)] = (putQ (putQ qs q) (-q)).map kq := by
  show putT (putT (qs.map kq) (kq q)) (kq (-q)) = _
  rw [putT_kq, putT_kq]
theorem mid_get {α : Type} (S : List α) (x : α) (l : List α) : (S ++ x :: l)[S.length]? = some x := by simp
theorem mid_set {α : Type} (S : List α) (x y : α) (l : List α) : (S ++ x :: l).set S.length y = S ++ y :: l := by simp
def nbB : EnP → Sto → SR := (dSeq (dSet 8 (dCB F_law_times_L (dCons (dTup (dCons (dV 7) (dCons (dC (.int 1)) (dNil)))) (dCons (dCB F_law_power_L (dCons (dV 1) (dCons (dV 6) (dNil)))) (dNil))))) (dAsg (dTup (dCons (dC (.bl true)) (dCons (dC (.bl true)) (dNil)))) (gTp 2 (gsCons (gIxT (dV 5) (dV 8)) (gsCons (gIxT (dV 5) (dTup (dCons (dBin fSub (dC (.int 0)) (dBin fIx (dV 8) (dC (.int 0)))) (dCons (dBin fIx (dV 8) (dC (.int 1))) (dNil))))) (gsNil))))))
theorem nb_step {f : Fm} {S0 l : Sto} {qs : List Rat} {e : Int} {m : Nat} {a0 a2 a3 a4 a8 : Option PV} (hf : FmS f) (h1 : f.lo ≤ e) (h2 : e ≤ f.hi) (h3 : 1 ≤ m) (h4 : m < f.b ^ f.k.toNat) (hq : qs ≠ []) (hl : qs.length ≤ 1000000) :
    nbB [a0, some (.int f.b), a2, a3, a4, some (.ref S0.length), some (.int e), some (.int (m : Int)), a8, none, none] (S0 ++ SO.dT (qs.map kq) :: l) =
      .nx [a0, some (.int f.b), a2, a3, a4, some (.ref S0.length), some (.int e), some (.int (m : Int)), some (eQ ((m : Rat) * pw f.b e)), none, none] (S0 ++ SO.dT ((putQ (putQ qs ((m : Rat) * pw f.b e)) (-((m : Rat) * pw f.b e))).map kq) :: l) := by
  have hb := b_pos hf.ok
  have p := fun S => l_power (b := f.b) (e := e) (S := S) hb hf.ok.b1 (by have := hf.ok.l0; have := hf.ok.h1; omega)
  have om : Ok (m : Rat) := (nat_bd (k := 1000) (by have := hf.pk; omega) (by decide)).ok (by decide +kernel)
  have op : Ok (pw f.b e) := (pw_bd hf.ok (by omega)).ok (by decide +kernel)
  have t := fun S => l_times (S := S) om op
  have mn := q_nat m
  generalize (m : Rat) * pw f.b e = q at *
  have n1 := putQ_len (qs := qs) (q := q)
  have s1 : ∀ ρ, setIxT (.bl true) ρ (.ref S0.length) (eQ q) (S0 ++ SO.dT (qs.map kq) :: l) = .ok ρ (S0 ++ SO.dT ((putQ qs q).map kq) :: l) := fun ρ => by
    have u : setIxT (.bl true) ρ (.ref S0.length) (eQ q) (S0 ++ SO.dT (qs.map kq) :: l) = (match (S0 ++ SO.dT (qs.map kq) :: l)[S0.length]? with
      | some (SO.dT ks) => if ks.length < lim then .ok ρ ((S0 ++ SO.dT (qs.map kq) :: l).set S0.length (SO.dT (putT ks (kq q)))) else .bad
      | _ => .bad) := rfl
    rw [u, mid_get]
    simp only
    rw [if_pos (by rw [List.length_map]; unfold lim; omega), mid_set, putT_kq]
  have s2 : ∀ ρ, setIxT (.bl true) ρ (.ref S0.length) (eQ (-q)) (S0 ++ SO.dT ((putQ qs q).map kq) :: l) = .ok ρ (S0 ++ SO.dT ((putQ (putQ qs q) (-q)).map kq) :: l) := fun ρ => by
    have u : setIxT (.bl true) ρ (.ref S0.length) (eQ (-q)) (S0 ++ SO.dT ((putQ qs q).map kq) :: l) = (match (S0 ++ SO.dT ((putQ qs q).map kq) :: l)[S0.length]? with
      | some (SO.dT ks) => if ks.length < lim then .ok ρ ((S0 ++ SO.dT ((putQ qs q).map kq) :: l).set S0.length (SO.dT (putT ks (kq (-q))))) else .bad
      | _ => .bad) := rfl
    rw [u, mid_get]
    simp only
    rw [if_pos (by rw [List.length_map]; unfold lim; omega), mid_set, putT_kq]
  have z : (0 : Int) - q.num = -q.num := by omega
  have qn := q_neg q
  simp [nbB, runF, startP, endOf, dRet, dRetN, dIf, dIfS, dB, dBin, dUn, dV, dC, sE, asB, dSeq, dSet, dPar, dPar3, dAsg, dExpr, dAnd, dOr, dNot, bAnd, bOr, bNot, dTru, dCB, dCons, dNil, dTup, dLst, dChain, dPass, fCmpI, fIsN, gTp, gsCons, gsNil, gNm, mkTup, dSl, dPart, dNoPart, lim, iLt, iLe, iGt, iGe, mn, p, t, gIxT, s1, ix_q0, ix_q1, w_sub, z, qn, s2]
theorem upTo_succ (a : Int) (n : Nat) : Mi.upTo a (n + 1) = .int a :: Mi.upTo (a + 1) n := by
  unfold Mi.upTo
  rw [List.range_succ_eq_map, List.map_cons, List.map_map]
  congr 1
  · simp
  · apply List.map_congr_left
    intro i _
    simp
    omega
end G04
end
section
set_option Elab.async false
set_option linter.all false
set_option maxRecDepth 100000
set_option maxHeartbeats 1000000
set_option exponentiation.threshold 5000
namespace G04
open PySem PySem.Spec PyProof.Rows L2 Mi Ra
theorem nb_in {f : Fm} {S0 : Sto} {e : Int} {a0 a2 a3 a4 : Option PV} (hf : FmS f) (h1 : f.lo ≤ e) (h2 : e ≤ f.hi) : ∀ (cnt a : Nat) (qs : List Rat) (l : Sto) (a7 a8 : Option PV), 1 ≤ a → a + cnt ≤ f.b ^ f.k.toNat → qs ≠ [] → qs.length + 2 * cnt ≤ 1000000 →
    ∃ (qs' : List Rat) (l' : Sto) (b7 b8 : Option PV), forP (gNm 7) nbB (Mi.upTo (a : Int) cnt) [a0, some (.int f.b), a2, a3, a4, some (.ref S0.length), some (.int e), a7, a8, none, none] (S0 ++ SO.dT (qs.map kq) :: l) =
      .nx [a0, some (.int f.b), a2, a3, a4, some (.ref S0.length), some (.int e), b7, b8, none, none] (S0 ++ SO.dT (qs'.map kq) :: l') ∧ qs' ≠ [] ∧ (qs.Nodup → qs'.Nodup) ∧ qs'.length ≤ qs.length + 2 * cnt ∧
      ∀ q, q ∈ qs' ↔ q ∈ qs ∨ ∃ m : Nat, a ≤ m ∧ m < a + cnt ∧ (q = (m : Rat) * pw f.b e ∨ q = -((m : Rat) * pw f.b e))
  | 0, a, qs, l, a7, a8, _, _, hq, _ => ⟨qs, l, a7, a8, by rw [Mi.upTo]; rfl, hq, id, by omega, fun q => ⟨.inl, fun h => h.elim id fun ⟨m, z1, z2, _⟩ => by omega⟩⟩
  | cnt + 1, a, qs, l, a7, a8, ha, hc, hq, hl => by
    have hs := nb_step (a0 := a0) (a2 := a2) (a3 := a3) (a4 := a4) (a8 := a8) (S0 := S0) (l := l) hf h1 h2 (m := a) ha (by omega) hq (by omega)
    have n1 := putQ_len (qs := qs) (q := (a : Rat) * pw f.b e)
    have n2 := putQ_len (qs := putQ qs ((a : Rat) * pw f.b e)) (q := -((a : Rat) * pw f.b e))
    have q0 : qs.length ≠ 0 := fun z => hq (List.length_eq_zero_iff.mp z)
    obtain ⟨qs', l', b7, b8, ih, i1, i2, i3, i4⟩ := nb_in (a0 := a0) (a2 := a2) (a3 := a3) (a4 := a4) (S0 := S0) (e := e) hf h1 h2 cnt (a + 1) (putQ (putQ qs ((a : Rat) * pw f.b e)) (-((a : Rat) * pw f.b e))) l (some (.int a)) (some (eQ ((a : Rat) * pw f.b e))) (by omega) (by omega) (fun z => by have z := congrArg List.length z; rw [List.length_nil] at z; omega) (by omega)
    refine ⟨qs', l', b7, b8, ?_, i1, fun h => i2 (putQ_nd (putQ_nd h)), by omega, fun q => ?_⟩
    · rw [upTo_succ, forP]
      have g : gNm 7 (.int (a : Int)) [a0, some (.int f.b), a2, a3, a4, some (.ref S0.length), some (.int e), a7, a8, none, none] (S0 ++ SO.dT (qs.map kq) :: l) = .ok [a0, some (.int f.b), a2, a3, a4, some (.ref S0.length), some (.int e), some (.int (a : Int)), a8, none, none] (S0 ++ SO.dT (qs.map kq) :: l) := rfl
      rw [g]
      simp only [sE, hs]
      exact ih
    · rw [i4, putQ_mem, putQ_mem]
      constructor
      · rintro (((h | h) | h) | ⟨m, h⟩)
        · exact .inl h
        · exact .inr ⟨a, by omega, by omega, .inl h⟩
        · exact .inr ⟨a, by omega, by omega, .inr h⟩
        · exact .inr ⟨m, by omega, by omega, h.2.2⟩
      · rintro (h | ⟨m, m1, m2, m3⟩)
        · exact .inl (.inl (.inl h))
        · by_cases z : m = a
          · subst z
            rcases m3 with m3 | m3
            · exact .inl (.inl (.inr m3))
            · exact .inl (.inr m3)
          · exact .inr ⟨m, by omega, by omega, m3⟩
def nbO : EnP → Sto → SR := (dFor (iRange (dCons (dC (.int 1)) (dCons (dBin fIx (dCB F_law_power_L (dCons (dV 1) (dCons (dV 2) (dNil)))) (dC (.int 0))) (dNil)))) (gNm 7) (dSeq (dSet 8 (dCB F_law_times_L (dCons (dTup (dCons (dV 7) (dCons (dC (.int 1)) (dNil)))) (dCons (dCB F_law_power_L (dCons (dV 1) (dCons (dV 6) (dNil)))) (dNil))))) (dAsg (dTup (dCons (dC (.bl true)) (dCons (dC (.bl true)) (dNil)))) (gTp 2 (gsCons (gIxT (dV 5) (dV 8)) (gsCons (gIxT (dV 5) (dTup (dCons (dBin fSub (dC (.int 0)) (dBin fIx (dV 8) (dC (.int 0)))) (dCons (dBin fIx (dV 8) (dC (.int 1))) (dNil))))) (gsNil)))))))
theorem nb_lap {f : Fm} {S0 l : Sto} {qs : List Rat} {e : Int} {a0 a4 a7 a8 : Option PV} (hf : FmS f) (h1 : f.lo ≤ e) (h2 : e ≤ f.hi) (hq : qs ≠ []) (hl : qs.length + 2000 ≤ 1000000) :
    ∃ (qs' : List Rat) (l' : Sto) (b7 b8 : Option PV), nbO [a0, some (.int f.b), some (.int f.k), some (.int f.lo), a4, some (.ref S0.length), some (.int e), a7, a8, none, none] (S0 ++ SO.dT (qs.map kq) :: l) =
      .nx [a0, some (.int f.b), some (.int f.k), some (.int f.lo), a4, some (.ref S0.length), some (.int e), b7, b8, none, none] (S0 ++ SO.dT (qs'.map kq) :: l') ∧ qs' ≠ [] ∧ (qs.Nodup → qs'.Nodup) ∧ qs'.length ≤ qs.length + 2000 ∧
      ∀ q, q ∈ qs' ↔ q ∈ qs ∨ ∃ m : Nat, 1 ≤ m ∧ m < f.b ^ f.k.toNat ∧ (q = (m : Rat) * pw f.b e ∨ q = -((m : Rat) * pw f.b e)) := by
  have hb := b_pos hf.ok
  have pk := hf.pk
  have pp := Nat.pow_pos (n := f.k.toNat) hb
  obtain ⟨qs', l', b7, b8, ih, i1, i2, i3, i4⟩ := nb_in (a0 := a0) (a2 := some (.int f.k)) (a3 := some (.int f.lo)) (a4 := a4) (S0 := S0) (e := e) hf h1 h2 (f.b ^ f.k.toNat - 1) 1 qs l a7 a8 (by omega) (by omega) hq (by omega)
  refine ⟨qs', l', b7, b8, ?_, i1, i2, by omega, fun q => ?_⟩
  · have p := fun S => l_power (b := f.b) (e := f.k) (S := S) hb hf.ok.b1 (by have := hf.ok.k0; have := hf.ok.k1; omega)
    have pn := pw_nn (b := f.b) (e := f.k) (by have := hf.ok.k0; omega)
    have ek : f.k.natAbs = f.k.toNat := by have := hf.ok.k0; omega
    have r : iRange (dCons (dC (.int 1)) (dCons (dBin fIx (dCB F_law_power_L (dCons (dV 1) (dCons (dV 2) (dNil)))) (dC (.int 0))) (dNil))) [a0, some (.int f.b), some (.int f.k), some (.int f.lo), a4, some (.ref S0.length), some (.int e), a7, a8, none, none] (S0 ++ SO.dT (qs.map kq) :: l) = .ok (Mi.upTo 1 (f.b ^ f.k.toNat - 1)) (S0 ++ SO.dT (qs.map kq) :: l) := by
      have e1 : (((f.b ^ f.k.toNat : Nat) : Int) - 1).toNat = f.b ^ f.k.toNat - 1 := by omega
      simp only [iRange, runF, startP, endOf, dRet, dRetN, dIf, dIfS, dB, dBin, dUn, dV, dC, sE, asB, dSeq, dSet, dPar, dPar3, dAsg, dExpr, dAnd, dOr, dNot, bAnd, bOr, bNot, dTru, dCB, dCons, dNil, dTup, dLst, dChain, dPass, fCmpI, fIsN, gTp, gsCons, gsNil, gNm, mkTup, dSl, dPart, dNoPart, lim, iLt, iLe, iGt, iGe, List.getElem?_cons_succ, List.getElem?_cons_zero, Res.bind_ok, p, ix_q0, pn.1, ek]
      rw [if_pos (by omega), e1]
    have dd : nbO = dFor (iRange (dCons (dC (.int 1)) (dCons (dBin fIx (dCB F_law_power_L (dCons (dV 1) (dCons (dV 2) (dNil)))) (dC (.int 0))) (dNil)))) (gNm 7) nbB := rfl
    rw [dd]
    unfold dFor
    rw [r]
    exact ih
  · rw [i4]
    constructor
    · rintro (h | ⟨m, m1, m2, m3⟩)
      · exact .inl h
      · exact .inr ⟨m, by omega, by omega, m3⟩
    · rintro (h | ⟨m, m1, m2, m3⟩)
      · exact .inl h
      · exact .inr ⟨m, by omega, by omega, m3⟩
theorem nb_out {f : Fm} {S0 : Sto} {a0 a4 : Option PV} (hf : FmS f) : ∀ (cnt : Nat) (a : Int) (qs : List Rat) (l : Sto) (a6 a7 a8 : Option PV), f.lo ≤ a → a + cnt ≤ f.hi + 1 → qs ≠ [] → qs.length + 2000 * cnt ≤ 1000000 →
    ∃ (qs' : List Rat) (l' : Sto) (b6 b7 b8 : Option PV), forP (gNm 6) nbO (Mi.upTo a cnt) [a0, some (.int f.b), some (.int f.k), some (.int f.lo), a4, some (.ref S0.length), a6, a7, a8, none, none] (S0 ++ SO.dT (qs.map kq) :: l) =
      .nx [a0, some (.int f.b), some (.int f.k), some (.int f.lo), a4, some (.ref S0.length), b6, b7, b8, none, none] (S0 ++ SO.dT (qs'.map kq) :: l') ∧ qs' ≠ [] ∧ (qs.Nodup → qs'.Nodup) ∧ qs'.length ≤ qs.length + 2000 * cnt ∧
      ∀ q, q ∈ qs' ↔ q ∈ qs ∨ ∃ (e : Int) (m : Nat), a ≤ e ∧ e < a + cnt ∧ 1 ≤ m ∧ m < f.b ^ f.k.toNat ∧ (q = (m : Rat) * pw f.b e ∨ q = -((m : Rat) * pw f.b e))
  | 0, a, qs, l, a6, a7, a8, _, _, hq, _ => ⟨qs, l, a6, a7, a8, by rw [Mi.upTo]; rfl, hq, id, by omega, fun q => ⟨.inl, fun h => h.elim id fun ⟨e, m, z1, z2, _⟩ => by omega⟩⟩
  | cnt + 1, a, qs, l, a6, a7, a8, ha, hc, hq, hl => by
    obtain ⟨q1, l1, c7, c8, hs, s1, s2, s3, s4⟩ := nb_lap (S0 := S0) (l := l) (e := a) (a0 := a0) (a4 := a4) (a7 := a7) (a8 := a8) hf ha (by omega) hq (by omega)
    obtain ⟨qs', l', b6, b7, b8, ih, i1, i2, i3, i4⟩ := nb_out (a0 := a0) (a4 := a4) (S0 := S0) hf cnt (a + 1) q1 l1 (some (.int a)) c7 c8 (by omega) (by omega) s1 (by omega)
    refine ⟨qs', l', b6, b7, b8, ?_, i1, fun h => i2 (s2 h), by omega, fun q => ?_⟩
    · rw [upTo_succ, forP]
      have g : gNm 6 (.int a) [a0, some (.int f.b), some (.int f.k), some (.int f.lo), a4, some (.ref S0.length), a6, a7, a8, none, none] (S0 ++ SO.dT (qs.map kq) :: l) = .ok [a0, some (.int f.b), some (.int f.k), some (.int f.lo), a4, some (.ref S0.length), some (.int a), a7, a8, none, none] (S0 ++ SO.dT (qs.map kq) :: l) := rfl
      rw [g]
      simp only [sE, hs]
      exact ih
    · rw [i4, s4]
      constructor
      · rintro ((h | ⟨m, h⟩) | ⟨e, m, h⟩)
        · exact .inl h
        · exact .inr ⟨a, m, by omega, by omega, h⟩
        · exact .inr ⟨e, m, by omega, by omega, h.2.2⟩
      · rintro (h | ⟨e, m, m1, m2, m3⟩)
        · exact .inl (.inl h)
        · by_cases z : e = a
          · subst z
            exact .inl (.inr ⟨m, m3⟩)
          · exact .inr ⟨e, m, by omega, by omega, m3⟩
theorem laid_ok {f : Fm} {q : Rat} (hf : FmS f) (h : Laid f q) : Bd (1000 * 10 ^ 10) q := by
  have key : ∀ (e : Int) (m : Nat), f.lo ≤ e → e ≤ f.hi → m < f.b ^ f.k.toNat → Bd (1000 * 10 ^ 10) ((m : Rat) * pw f.b e) := fun e m h1 h2 h4 => by
    have l0 := hf.l0
    have h0 := hf.h1
    have pk := hf.pk
    have bb := hf.bb
    have pn := pw_num (b_pos hf.ok) e
    have le : f.b ^ e.natAbs ≤ 10 ^ 10 := Nat.le_trans (Nat.pow_le_pow_left bb _) (Nat.pow_le_pow_right (by decide) (by omega))
    exact Bd.mul (nat_bd (by omega) (by decide)) ⟨Nat.le_trans pn.1 le, Nat.le_trans pn.2 le⟩
  rcases h with h | ⟨e, m, h1, h2, h3, h4, h5 | h5⟩
  · rw [h]; exact ⟨by decide +kernel, by decide +kernel⟩
  · rw [h5]; exact key e m h1 h2 h4
  · rw [h5]; exact (key e m h1 h2 h4).neg
theorem num_ok {f : Fm} {q : Rat} (hf : FmS f) (h : IsNum f q) : Bd (1000 * 10 ^ 10) q := laid_ok hf ((laid_is hf.ok q).mpr h)
end G04
end
section
set_option Elab.async false
set_option linter.all false
set_option maxRecDepth 100000
set_option maxHeartbeats 1000000
set_option exponentiation.threshold 5000
namespace G04
open PySem PySem.Spec PyProof.Rows L2 Mi Ra
theorem intL_map : ∀ ns : List Int, intL (ns.map .int) = some ns
  | [] => rfl
  | x :: r => by rw [List.map_cons, intL, intL_map r]; rfl
theorem sorted_is {ns : List Int} {S : Sto} (h : ns.length ≤ lim) : fSorted [.nl (ns.map .int)] S = .ok (.nl ((sortI ns).map .int)) S := by
  show (match intL (ns.map .int) with | some ns => mkLst false ((sortI ns).map .int) S | none => .bad) = _
  rw [intL_map]
  simp only [mkLst]
  rw [if_pos (by rw [List.length_map, (sortI_perm ns).length_eq]; exact h)]
  rfl
def nmR : EnP → Sto → Res PV := (dLc false (iSeq (dCB fSorted (dCons (dLcD 5 (dLc false (iDk 5) (cNm 8) (dYes) (dBin fDiv (dBin (fMul false) (dBin fIx (dV 8) (dC (.int 0))) (dV 9)) (dBin fIx (dV 8) (dC (.int 1)))) [8])) (dNil)))) (cNm 10) (dYes) (dCB F_law_low_L (dCons (dV 10) (dCons (dV 9) (dNil)))) [10])
def nmB : EnP → Sto → Res PV := (dBin fIx (dCB F_law_power_L (dCons (dV 1) (dCons (dCB fAbs (dCons (dV 3) (dNil))) (dNil)))) (dC (.int 0)))
theorem nm_tops {f : Fm} {S0 l : Sto} {qs : List Rat} {a0 a1 a2 a3 a4 a6 a7 a8 : Option PV} (hf : FmS f) (mem : ∀ q ∈ qs, Laid f q) (hl : qs.length ≤ 100000) :
    dLcD 5 (dLc false (iDk 5) (cNm 8) (dYes) (dBin fDiv (dBin (fMul false) (dBin fIx (dV 8) (dC (.int 0))) (dV 9)) (dBin fIx (dV 8) (dC (.int 1)))) [8]) [a0, a1, a2, a3, a4, some (.ref S0.length), a6, a7, a8, some (.int (btm f : Int)), none] (S0 ++ SO.dT (qs.map kq) :: l) = .ok (.nl ((qs.map (topI (btm f))).map .int)) (S0 ++ SO.dT (qs.map kq) :: l) := by
  have i : iDk 5 [a0, a1, a2, a3, a4, some (.ref S0.length), a6, a7, a8, some (.int (btm f : Int)), none] (S0 ++ SO.fz (qs.map kq) :: l) = .ok (qs.map eQ) (S0 ++ SO.fz (qs.map kq) :: l) := by
    have e : iDk 5 [a0, a1, a2, a3, a4, some (.ref S0.length), a6, a7, a8, some (.int (btm f : Int)), none] (S0 ++ SO.fz (qs.map kq) :: l) = (match (S0 ++ SO.fz (qs.map kq) :: l)[S0.length]? with
      | some (SO.fz ks) => .ok (ks.map fun k => .tup (k.map .int)) (S0 ++ SO.fz (qs.map kq) :: l)
      | _ => .bad) := rfl
    rw [e, mid_get]
    simp only [List.map_map]
    rfl
  have bm : (btm f : Int).natAbs ≤ 10 ^ 140 := by rw [Int.natAbs_natCast]; exact sh_le hf.ok (by omega)
  have q := dLc_map (α := Rat) (f := cNm 8) (de := dBin fDiv (dBin (fMul false) (dBin fIx (dV 8) (dC (.int 0))) (dV 9)) (dBin fIx (dV 8) (dC (.int 1)))) (ρ := [a0, a1, a2, a3, a4, some (.ref S0.length), a6, a7, a8, some (.int (btm f : Int)), none]) (vs := [8]) eQ (fun q => .int (topI (btm f) q)) (fun q => Laid f q) i
    (fun q hq => ⟨[a0, a1, a2, a3, a4, some (.ref S0.length), a6, a7, some (eQ q), some (.int (btm f : Int)), none], rfl, fun S => by
      have ok := (laid_ok hf hq).ok (by decide +kernel)
      have m := fun S => mul_sm (S := S) (i := q.num) (j := (btm f : Int)) (sm_n ok) (Nat.le_trans bm (by decide +kernel))
      have d := fun i S => div_sm (S := S) (i := i) (den_p q) (sm_d ok)
      simp [runF, startP, endOf, dRet, dRetN, dIf, dIfS, dB, dBin, dUn, dV, dC, sE, asB, dSeq, dSet, dPar, dPar3, dAsg, dExpr, dAnd, dOr, dNot, bAnd, bOr, bNot, dTru, dCB, dCons, dNil, dTup, dLst, dChain, dPass, fCmpI, fIsN, gTp, gsCons, gsNil, gNm, mkTup, dSl, dPart, dNoPart, lim, iLt, iLe, iGt, iGe, ix_q0, ix_q1, m, d]
      rfl⟩) mem (by unfold lim; omega)
  have e : ∀ D : EnP → Sto → Res PV, dLcD 5 D [a0, a1, a2, a3, a4, some (.ref S0.length), a6, a7, a8, some (.int (btm f : Int)), none] (S0 ++ SO.dT (qs.map kq) :: l) = (match (S0 ++ SO.dT (qs.map kq) :: l)[S0.length]? with
    | some (SO.dT ks) => (match D [a0, a1, a2, a3, a4, some (.ref S0.length), a6, a7, a8, some (.int (btm f : Int)), none] ((S0 ++ SO.dT (qs.map kq) :: l).set S0.length (SO.fz ks)) with
      | .ok v S2 => (match S2[S0.length]? with
        | some (SO.fz ks2) => if ks2 = ks then .ok v (S2.set S0.length (SO.dT ks)) else .bad
        | _ => .bad)
      | _ => .bad)
    | _ => .bad) := fun D => rfl
  rw [e, mid_get]
  simp only
  rw [mid_set, q]
  simp only
  rw [mid_get]
  simp only [if_true]
  rw [mid_set, List.map_map]
  rfl
theorem nm_ret {f : Fm} {S0 l : Sto} {qs : List Rat} {a0 a1 a2 a3 a4 a6 a7 a8 : Option PV} (hf : FmS f) (mem : ∀ q ∈ qs, Laid f q) (hl : qs.length ≤ 100000) :
    nmR [a0, a1, a2, a3, a4, some (.ref S0.length), a6, a7, a8, some (.int (btm f : Int)), none] (S0 ++ SO.dT (qs.map kq) :: l) = .ok (.nl (((sortI (qs.map (topI (btm f)))).map fun t => Rat.divInt t (btm f)).map eQ)) (S0 ++ SO.dT (qs.map kq) :: l) := by
  have t := nm_tops (S0 := S0) (l := l) (a0 := a0) (a1 := a1) (a2 := a2) (a3 := a3) (a4 := a4) (a6 := a6) (a7 := a7) (a8 := a8) hf mem hl
  have sr := sorted_is (ns := qs.map (topI (btm f))) (S := S0 ++ SO.dT (qs.map kq) :: l) (by rw [List.length_map]; unfold lim; omega)
  have bp := btm_pos hf.ok
  have bm : (btm f : Int).natAbs ≤ 10 ^ 140 := by rw [Int.natAbs_natCast]; exact sh_le hf.ok (by omega)
  have tb : ∀ t ∈ sortI (qs.map (topI (btm f))), t.natAbs ≤ 2 ^ 4000 := fun t ht => by
    obtain ⟨q, hq, rfl⟩ := List.mem_map.mp ((sortI_perm _).mem_iff.mp ht)
    have ok := (laid_ok hf (mem q hq))
    have := fdiv_abs2 (a := q.num * (btm f : Int)) (den_p q)
    have m := mul_abs ok.n bm
    exact Nat.le_trans this (Nat.le_trans (Nat.add_le_add_right m 1) (by decide +kernel))
  have i : iSeq (dCB fSorted (dCons (dLcD 5 (dLc false (iDk 5) (cNm 8) (dYes) (dBin fDiv (dBin (fMul false) (dBin fIx (dV 8) (dC (.int 0))) (dV 9)) (dBin fIx (dV 8) (dC (.int 1)))) [8])) (dNil))) [a0, a1, a2, a3, a4, some (.ref S0.length), a6, a7, a8, some (.int (btm f : Int)), none] (S0 ++ SO.dT (qs.map kq) :: l) = .ok ((sortI (qs.map (topI (btm f)))).map PV.int) (S0 ++ SO.dT (qs.map kq) :: l) := by
    simp only [iSeq, dCB, dCons, dNil, t, Res.bind_ok, sr]
    rfl
  have q := dLc_map (α := Int) (f := cNm 10) (de := dCB F_law_low_L (dCons (dV 10) (dCons (dV 9) (dNil)))) (ρ := [a0, a1, a2, a3, a4, some (.ref S0.length), a6, a7, a8, some (.int (btm f : Int)), none]) (vs := [10]) PV.int (fun t => eQ (Rat.divInt t (btm f))) (fun t => t.natAbs ≤ 2 ^ 4000) i
    (fun t ht => ⟨[a0, a1, a2, a3, a4, some (.ref S0.length), a6, a7, a8, some (.int (btm f : Int)), some (.int t)], rfl, fun S => by
      have w := fun S => l_low (a := t) (b := (btm f : Int)) (S := S) (by omega) ht (Nat.le_trans bm (by decide +kernel))
      simp [runF, startP, endOf, dRet, dRetN, dIf, dIfS, dB, dBin, dUn, dV, dC, sE, asB, dSeq, dSet, dPar, dPar3, dAsg, dExpr, dAnd, dOr, dNot, bAnd, bOr, bNot, dTru, dCB, dCons, dNil, dTup, dLst, dChain, dPass, fCmpI, fIsN, gTp, gsCons, gsNil, gNm, mkTup, dSl, dPart, dNoPart, lim, iLt, iLe, iGt, iGe, w]⟩) tb (by rw [(sortI_perm _).length_eq, List.length_map]; unfold lim; omega)
  rw [List.map_map]
  exact q
theorem l_numbers {f : Fm} (hf : FmS f) (hlo : f.lo ≤ 0) (S : Sto) : ∃ (xs : List Rat) (l : Sto), F_law_numbers_L [eF f] S = .ok (.nl (xs.map eQ)) (S ++ l) ∧ Row f xs ∧ xs.length ≤ 100000 := by
  have l0 := hf.l0
  have h1 := hf.h1
  have lh := hf.ok.lh
  obtain ⟨qs, l, b6, b7, b8, ho, o1, o2, o3, o4⟩ := nb_out (S0 := S) (a0 := some (eF f)) (a4 := some (.int f.hi)) hf (f.hi + 1 - f.lo).toNat f.lo [0] [] none none none (by omega) (by omega) (by simp) (by simp; omega)
  have mem : ∀ q, q ∈ qs ↔ Laid f q := fun q => by
    rw [o4]
    unfold Laid
    constructor
    · rintro (h | ⟨e, m, z1, z2, z3⟩)
      · exact .inl (List.mem_singleton.mp h)
      · exact .inr ⟨e, m, z1, by omega, z3⟩
    · rintro (h | ⟨e, m, z1, z2, z3⟩)
      · exact .inl (List.mem_singleton.mpr h)
      · exact .inr ⟨e, m, z1, by omega, z3⟩
  have nd : qs.Nodup := o2 (by simp)
  have ln : qs.length ≤ 100000 := by simp at o3; omega
  refine ⟨(sortI (qs.map (topI (btm f)))).map fun t => Rat.divInt t (btm f), SO.dT (qs.map kq) :: l, ?_, row_of hf.ok nd mem (sortI_perm _) (sortI_sorted _), by rw [List.length_map, (sortI_perm _).length_eq, List.length_map]; exact ln⟩
  have rt := nm_ret (S0 := S) (l := l) (a0 := some (eF f)) (a1 := some (.int f.b)) (a2 := some (.int f.k)) (a3 := some (.int f.lo)) (a4 := some (.int f.hi)) (a6 := b6) (a7 := b7) (a8 := b8) hf (fun q hq => (mem q).mp hq) ln
  have d0 : ∀ (S : Sto) ρ, dDispT ([(dTup (dCons (dC (.int 0)) (dCons (dC (.int 1)) (dNil))), dC (.bl true))]) ρ S = .ok (.ref S.length) (S ++ SO.dT ([(0 : Rat)].map kq) :: []) := fun S ρ => rfl
  have r : iRange (dCons (dV 3) (dCons (dBin (fAdd false) (dV 4) (dC (.int 1))) (dNil))) [some (eF f), some (.int f.b), some (.int f.k), some (.int f.lo), some (.int f.hi), some (.ref S.length), none, none, none, none, none] (S ++ SO.dT ([(0 : Rat)].map kq) :: []) = .ok (Mi.upTo f.lo (f.hi + 1 - f.lo).toNat) (S ++ SO.dT ([(0 : Rat)].map kq) :: []) := by
    simp only [iRange, runF, startP, endOf, dRet, dRetN, dIf, dIfS, dB, dBin, dUn, dV, dC, sE, asB, dSeq, dSet, dPar, dPar3, dAsg, dExpr, dAnd, dOr, dNot, bAnd, bOr, bNot, dTru, dCB, dCons, dNil, dTup, dLst, dChain, dPass, fCmpI, fIsN, gTp, gsCons, gsNil, gNm, mkTup, dSl, dPart, dNoPart, lim, iLt, iLe, iGt, iGe, List.getElem?_cons_succ, List.getElem?_cons_zero, Res.bind_ok, w_add]
    rw [if_pos (by omega)]
  have mx : ∀ S, fAbs [.int f.lo] S = .ok (.int (((-f.lo).toNat : Nat) : Int)) S := fun S => by
    rw [w_abs]
    congr 2
    split <;> omega
  have pb := fun S => l_power (b := f.b) (e := (((-f.lo).toNat : Nat) : Int)) (S := S) (b_pos hf.ok) hf.ok.b1 (by omega)
  have pn := (pw_nn (b := f.b) (e := (((-f.lo).toNat : Nat) : Int)) (by omega)).1
  rw [Int.natAbs_natCast] at pn
  have bt : pw f.b (((-f.lo).toNat : Nat) : Int) = ((btm f : Nat) : Rat) := by
    unfold pw btm
    rw [if_pos (by omega), Int.natAbs_natCast]
  have bn : ∀ ρ S, ρ[1]? = some (some (.int f.b)) → ρ[3]? = some (some (.int f.lo)) → nmB ρ S = .ok (.int (btm f : Int)) S := fun ρ S e1 e3 => by
    have z : ∀ S, fIx (eQ (pw f.b (((-f.lo).toNat : Nat) : Int))) (.int 0) S = .ok (.int (btm f : Int)) S := fun S => by rw [ix_q0, pn]; rfl
    simp only [nmB, runF, startP, endOf, dRet, dRetN, dIf, dIfS, dB, dBin, dUn, dV, dC, sE, asB, dSeq, dSet, dPar, dPar3, dAsg, dExpr, dAnd, dOr, dNot, bAnd, bOr, bNot, dTru, dCB, dCons, dNil, dTup, dLst, dChain, dPass, fCmpI, fIsN, gTp, gsCons, gsNil, gNm, mkTup, dSl, dPart, dNoPart, lim, iLt, iLe, iGt, iGe, e1, e3, Res.bind_ok, w_sub, mx, pb, z]
  have dd : d_law_numbers_L = dSeq (dAsg (dV 0) (gTp 4 (gsCons (gNm 1) (gsCons (gNm 2) (gsCons (gNm 3) (gsCons (gNm 4) (gsNil))))))) (dSeq (dSet 5 (dDispT ([(dTup (dCons (dC (.int 0)) (dCons (dC (.int 1)) (dNil))), dC (.bl true))]))) (dSeq (dFor (iRange (dCons (dV 3) (dCons (dBin (fAdd false) (dV 4) (dC (.int 1))) (dNil)))) (gNm 6) nbO) (dSeq (dSet 9 nmB) (dRet nmR)))) := rfl
  have s1 : (dAsg (dV 0) (gTp 4 (gsCons (gNm 1) (gsCons (gNm 2) (gsCons (gNm 3) (gsCons (gNm 4) (gsNil))))))) [some (eF f), none, none, none, none, none, none, none, none, none, none] S = .nx [some (eF f), some (.int f.b), some (.int f.k), some (.int f.lo), some (.int f.hi), none, none, none, none, none, none] S := rfl
  show endOf (d_law_numbers_L [some (eF f), none, none, none, none, none, none, none, none, none, none] S) = _
  rw [dd]
  simp only [dSeq, s1, dSet, d0, sE, List.set_cons_succ, List.set_cons_zero, dFor, r, ho]
  rw [bn _ _ rfl rfl]
  simp only [sE, List.set_cons_succ, List.set_cons_zero, dRet, rt]
  rfl
end G04
end
section
set_option Elab.async false
set_option linter.all false
set_option maxRecDepth 100000
set_option maxHeartbeats 1000000
set_option exponentiation.threshold 5000
namespace G04
open PySem PySem.Spec PyProof.Rows L2 Mi Ra
/-! ### the program's words of formats -/
theorem e_gap_at {f : Fm} {x : Rat} {S : Sto} (hf : FmOk f) (hx : Ok x) : F_gap_at [eF f, eQ x] S = .ok (eQ (gapR f x)) S := by
  simp [F_gap_at, d_gap_at, runF, startP, endOf, dRet, dRetN, dIf, dIfS, dB, dBin, dUn, dV, dC, sE, asB, dSeq, dSet, dPar, dPar3, dAsg, dExpr, dAnd, dOr, dNot, bAnd, bOr, bNot, dTru, dCB, dCons, dNil, dTup, dLst, dChain, dPass, fCmpI, fIsN, gTp, gsCons, gsNil, gNm, mkTup, dSl, dPart, dNoPart, lim, iLt, iLe, iGt, iGe, e_chk_format hf, e_chkf hx, e_raw_gap hf hx]
theorem e_rounded {f : Fm} {y : Wy} {x : Rat} {S : Sto} (hf : FmOk f) (hx : Ok x) : F_rounded [eF f, eY y, eQ x] S = .ok (eO (roundR f y x)) S := by
  have r := fun S => (e_raw_rounded (w := y) (S := S) hf hx).1
  simp [F_rounded, d_rounded, runF, startP, endOf, dRet, dRetN, dIf, dIfS, dB, dBin, dUn, dV, dC, sE, asB, dSeq, dSet, dPar, dPar3, dAsg, dExpr, dAnd, dOr, dNot, bAnd, bOr, bNot, dTru, dCB, dCons, dNil, dTup, dLst, dChain, dPass, fCmpI, fIsN, gTp, gsCons, gsNil, gNm, mkTup, dSl, dPart, dNoPart, lim, iLt, iLe, iGt, iGe, e_chk_format hf, e_chk_way, e_chkf hx, r]
theorem e_most_fm {f : Fm} {S : Sto} (hf : FmOk f) : F_most_of [eF f] S = .ok (eQ (mostR f)) S := by
  simp [F_most_of, d_most_of, runF, startP, endOf, dRet, dRetN, dIf, dIfS, dB, dBin, dUn, dV, dC, sE, asB, dSeq, dSet, dPar, dPar3, dAsg, dExpr, dAnd, dOr, dNot, bAnd, bOr, bNot, dTru, dCB, dCons, dNil, dTup, dLst, dChain, dPass, fCmpI, fIsN, gTp, gsCons, gsNil, gNm, mkTup, dSl, dPart, dNoPart, lim, iLt, iLe, iGt, iGe, e_chk_format hf, e_raw_most hf]
theorem e_least_fm {f : Fm} {S : Sto} (hf : FmOk f) : F_least_of [eF f] S = .ok (eQ (pw f.b f.lo)) S := by
  have p := fun S => e_power (b := f.b) (e := f.lo) (S := S) (b_pos hf) hf.b1 (by have := hf.l0; have := hf.l1; omega)
  simp [F_least_of, d_least_of, runF, startP, endOf, dRet, dRetN, dIf, dIfS, dB, dBin, dUn, dV, dC, sE, asB, dSeq, dSet, dPar, dPar3, dAsg, dExpr, dAnd, dOr, dNot, bAnd, bOr, bNot, dTru, dCB, dCons, dNil, dTup, dLst, dChain, dPass, fCmpI, fIsN, gTp, gsCons, gsNil, gNm, mkTup, dSl, dPart, dNoPart, lim, iLt, iLe, iGt, iGe, e_chk_format hf, ix_f0, ix_f2, p]
theorem e_raw_is_numberN {f : Fm} {x : Rat} {S : Sto} (hf : FmOk f) (hx : Ok x) (h : ¬ IsNum f x) : F_raw_is_number [eF f, eQ x] S = .ok (.bl false) S := by
  have gk := (gap_ok hf hx).1
  have e1 := fun S => e_raw_gap (S := S) hf hx
  have e2 := fun S => e_raw_most (S := S) hf
  have g0 := gap_pos hf x
  have gn : 0 < (gapR f x).num := num_pos.mpr g0
  have bp : 0 < (x.den : Int) * (gapR f x).num := Int.mul_pos (den_p x) gn
  have m1 := fun S => mul_sm (S := S) (sm_n hx) (sm_d gk)
  have m2 := fun S => mul_sm (S := S) (sm_d hx) (sm_n gk)
  have le := fun S => e_raw_at_most (S := S) hx.abs (most_ok hf)
  have md := fun S => mod_sm (S := S) (i := x.num * ((gapR f x).den : Int)) bp
  by_cases l : x.abs ≤ mostR f
  · have nz : ¬ (x.num * ((gapR f x).den : Int)).fmod ((x.den : Int) * (gapR f x).num) = 0 := fun z => h ⟨l, (x.num * ((gapR f x).den : Int)).fdiv ((x.den : Int) * (gapR f x).num), by
      have e := Int.mul_fdiv_add_fmod (x.num * ((gapR f x).den : Int)) ((x.den : Int) * (gapR f x).num)
      rw [z, Int.add_zero] at e
      generalize (x.num * ((gapR f x).den : Int)).fdiv ((x.den : Int) * (gapR f x).num) = m at e
      have e' : x.num * ((gapR f x).den : Int) = m * ((x.den : Int) * (gapR f x).num) := by rw [Int.mul_comm m]; exact e.symm
      rw [← Rat.intCast_inj, Rat.intCast_mul, Rat.intCast_mul, Rat.intCast_mul, num_is, num_is, Rat.intCast_natCast, Rat.intCast_natCast] at e'
      have d1 := nat_ne x.den_pos
      have d2 := nat_ne (gapR f x).den_pos
      generalize gapR f x = g at *
      generalize (x.den : Rat) = dx at *
      generalize (g.den : Rat) = dg at *
      have : (x - (m : Rat) * g) * (dx * dg) = 0 := by grind
      have n : dx * dg ≠ 0 := by grind
      clear e' e z md m1 m2 le
      grind⟩
    have we : ∀ S, fEq false (.int ((x.num * ((gapR f x).den : Int)).fmod ((x.den : Int) * (gapR f x).num))) (.int 0) S = .ok (.bl false) S := fun S => by rw [w_eq]; simp [nz]
    simp [F_raw_is_number, d_raw_is_number, runF, startP, endOf, dRet, dRetN, dIf, dIfS, dB, dBin, dUn, dV, dC, sE, asB, dSeq, dSet, dPar, dPar3, dAsg, dExpr, dAnd, dOr, dNot, bAnd, bOr, bNot, dTru, dCB, dCons, dNil, dTup, dLst, dChain, dPass, fCmpI, fIsN, gTp, gsCons, gsNil, gNm, mkTup, dSl, dPart, dNoPart, lim, iLt, iLe, iGt, iGe, e1, e2, e_raw_size, le, l, truP, ix_q0, ix_q1, m1, m2, md, we]
  · simp [F_raw_is_number, d_raw_is_number, runF, startP, endOf, dRet, dRetN, dIf, dIfS, dB, dBin, dUn, dV, dC, sE, asB, dSeq, dSet, dPar, dPar3, dAsg, dExpr, dAnd, dOr, dNot, bAnd, bOr, bNot, dTru, dCB, dCons, dNil, dTup, dLst, dChain, dPass, fCmpI, fIsN, gTp, gsCons, gsNil, gNm, mkTup, dSl, dPart, dNoPart, lim, iLt, iLe, iGt, iGe, e1, e2, e_raw_size, le, l, truP]
theorem e_is_numR {f : Fm} {x : Rat} {xs : List Rat} {S : Sto} (hf : FmOk f) (hx : Ok x) (h : Row f xs) : F_is_number_of [eF f, eQ x] S = .ok (.bl (decide (x ∈ xs))) S := by
  by_cases c : x ∈ xs
  · rw [e_is_number_of hf hx ((h.mem x).mp c), decide_eq_true c]
  · have n := fun S => e_raw_is_numberN (S := S) hf hx (fun z => c ((h.mem x).mpr z))
    rw [decide_eq_false c]
    simp [F_is_number_of, d_is_number_of, runF, startP, endOf, dRet, dRetN, dIf, dIfS, dB, dBin, dUn, dV, dC, sE, asB, dSeq, dSet, dPar, dPar3, dAsg, dExpr, dAnd, dOr, dNot, bAnd, bOr, bNot, dTru, dCB, dCons, dNil, dTup, dLst, dChain, dPass, fCmpI, fIsN, gTp, gsCons, gsNil, gNm, mkTup, dSl, dPart, dNoPart, lim, iLt, iLe, iGt, iGe, e_chk_format hf, e_chkf hx, n]
theorem e_chk_number {f : Fm} {x : Rat} {S : Sto} (hf : FmOk f) (hx : Ok x) (h : IsNum f x) : F_check_number [eF f, eQ x] S = .ok .non S := by
  simp [F_check_number, d_check_number, runF, startP, endOf, dRet, dRetN, dIf, dIfS, dB, dBin, dUn, dV, dC, sE, asB, dSeq, dSet, dPar, dPar3, dAsg, dExpr, dAnd, dOr, dNot, bAnd, bOr, bNot, dTru, dCB, dCons, dNil, dTup, dLst, dChain, dPass, fCmpI, fIsN, gTp, gsCons, gsNil, gNm, mkTup, dSl, dPart, dNoPart, lim, iLt, iLe, iGt, iGe, e_chk_format hf, e_fraction hx, e_raw_is_number hf hx h, truP]
noncomputable def stp (f : Fm) : Rat := pw f.b f.lo * (1 / 8)
theorem one_q : PV.tup [.int 1, .int 1] = eQ 1 := by kernel_rfl
theorem stp_ok {f : Fm} (hf : FmOk f) : Bd (10 ^ 140) (pw f.b f.lo) := pw_bd hf (by omega)
theorem step_frac {x p : Rat} : Rat.divInt (x.num * (8 * (p.den : Int)) + p.num * (x.den : Int)) ((x.den : Int) * (8 * (p.den : Int))) = x + p * (1 / 8) := by
  have h8 : Rat.divInt p.num (8 * (p.den : Int)) = p * (1 / 8) := by
    have e : (1 / 8 : Rat) = Rat.divInt 1 8 := by kernel_rfl
    have p' : p = Rat.divInt p.num p.den := (self p).symm
    conv => rhs; rw [p', e, Rat.divInt_mul_divInt]
    rw [Int.mul_one, Int.mul_comm]
  have d8 : (8 * (p.den : Int)) ≠ 0 := by have := den_p p; omega
  rw [← h8, ← Rat.divInt_add_divInt _ _ (den0 x) d8, self]
theorem made1 {f : Fm} {x p : Rat} {S : Sto} (hx : Ok x) (hp : Bd (10 ^ 140) p) (ok : Ok (x + p * (1 / 8))) : F_raw_times [.tup [.int (x.num * (8 * (p.den : Int)) + p.num * (x.den : Int)), .int ((x.den : Int) * (8 * (p.den : Int)))], .tup [.int 1, .int 1]] S = .ok (eQ (x + p * (1 / 8))) S := by
  have d8 : 0 < (x.den : Int) * (8 * (p.den : Int)) := Int.mul_pos (den_p x) (by have := den_p p; omega)
  have s8 : (8 * (p.den : Int)).natAbs ≤ 8 * 10 ^ 140 := by have := hp.d; omega
  have sd : ((x.den : Int) * (8 * (p.den : Int))).natAbs ≤ 10 ^ 601 := Nat.le_trans (mul_abs hx.bd.dn s8) (by decide +kernel)
  have m := fun S => e_made (S := S) (a := x.num * (8 * (p.den : Int)) + p.num * (x.den : Int)) (b := (x.den : Int) * (8 * (p.den : Int))) (by omega) sd
  rw [step_frac] at m
  have sn : (x.num * (8 * (p.den : Int)) + p.num * (x.den : Int)).natAbs ≤ 2 ^ 4000 := Nat.le_trans (Int.natAbs_add_le _ _) (Nat.le_trans (Nat.add_le_add (mul_abs hx.bd.n s8) (mul_abs hp.n hx.bd.dn)) (by decide +kernel))
  have m1 := fun S => mul_sm (S := S) (j := 1) sn (by decide +kernel)
  have m2 := fun S => mul_sm (S := S) (j := 1) (Nat.le_trans sd (by decide +kernel)) (by decide +kernel)
  have r := fun S => rQ_ok (S := S) ok
  simp [F_raw_times, d_raw_times, runF, startP, endOf, dRet, dRetN, dIf, dIfS, dB, dBin, dUn, dV, dC, sE, asB, dSeq, dSet, dPar, dPar3, dAsg, dExpr, dAnd, dOr, dNot, bAnd, bOr, bNot, dTru, dCB, dCons, dNil, dTup, dLst, dChain, dPass, fCmpI, fIsN, gTp, gsCons, gsNil, gNm, mkTup, dSl, dPart, dNoPart, lim, iLt, iLe, iGt, iGe, ix_t0, ix_t1, m1, m2, m, r]
theorem up_is : c_UP = "up" := rfl
theorem e_besideU {f : Fm} {x : Rat} {S : Sto} (hf : FmOk f) (hx : Ok x) (ok : Ok (x + stp f)) : F_beside [eF f, eQ x, .str "up"] S = .ok (eO (roundR f .up (x + stp f))) S := by
  have p := fun S => e_power (b := f.b) (e := f.lo) (S := S) (b_pos hf) hf.b1 (by have := hf.l0; have := hf.l1; omega)
  have hp := stp_ok hf
  have mk := fun S => made1 (f := f) (S := S) hx hp ok
  have r := fun S => (e_raw_rounded (w := .up) (S := S) hf ok).1
  have ey : eY .up = .str "up" := rfl
  rw [ey] at r
  unfold stp at r ⊢
  generalize pw f.b f.lo = q at *
  have s8 : (8 * (q.den : Int)).natAbs ≤ 2 ^ 4000 := Nat.le_trans (show (8 * (q.den : Int)).natAbs ≤ 8 * 10 ^ 140 by have := hp.d; omega) (by decide +kernel)
  have m0 := fun S => mul_sm (S := S) (i := 8) (j := (q.den : Int)) (by decide +kernel) (Nat.le_trans hp.dn (by decide +kernel))
  have m1 := fun S => mul_sm (S := S) (i := x.num) (j := 8 * (q.den : Int)) (sm_n hx) s8
  have m2 := fun S => mul_sm (S := S) (i := q.num) (j := (x.den : Int)) (Nat.le_trans hp.n (by decide +kernel)) (sm_d hx)
  have m3 := fun S => mul_sm (S := S) (i := (x.den : Int)) (j := 8 * (q.den : Int)) (sm_d hx) s8
  simp [F_beside, d_beside, runF, startP, endOf, dRet, dRetN, dIf, dIfS, dB, dBin, dUn, dV, dC, sE, asB, dSeq, dSet, dPar, dPar3, dAsg, dExpr, dAnd, dOr, dNot, bAnd, bOr, bNot, dTru, dCB, dCons, dNil, dTup, dLst, dChain, dPass, fCmpI, fIsN, gTp, gsCons, gsNil, gNm, mkTup, dSl, dPart, dNoPart, lim, iLt, iLe, iGt, iGe, ix_f0, ix_f2, p, up_is, ix_q0, ix_q1, ix_t0, ix_t1, m0, m1, m2, m3, w_add, mk, r]
theorem e_besideD {f : Fm} {x : Rat} {S : Sto} (hf : FmOk f) (hx : Ok x) (ok : Ok (x - stp f)) : F_beside [eF f, eQ x, .str "down"] S = .ok (eO (roundR f .down (x - stp f))) S := by
  have p := fun S => e_power (b := f.b) (e := f.lo) (S := S) (b_pos hf) hf.b1 (by have := hf.l0; have := hf.l1; omega)
  have hp := stp_ok hf
  have en : x - stp f = x + -pw f.b f.lo * (1 / 8) := by unfold stp; grind
  rw [en] at ok ⊢
  have mk := fun S => made1 (f := f) (S := S) hx hp.neg ok
  rw [Rat.neg_num, Rat.neg_den] at mk
  have r := fun S => (e_raw_rounded (w := .down) (S := S) hf ok).1
  have ey : eY .down = .str "down" := rfl
  rw [ey] at r
  generalize pw f.b f.lo = q at *
  have s8 : (8 * (q.den : Int)).natAbs ≤ 2 ^ 4000 := Nat.le_trans (show (8 * (q.den : Int)).natAbs ≤ 8 * 10 ^ 140 by have := hp.d; omega) (by decide +kernel)
  have m0 := fun S => mul_sm (S := S) (i := 8) (j := (q.den : Int)) (by decide +kernel) (Nat.le_trans hp.dn (by decide +kernel))
  have m1 := fun S => mul_sm (S := S) (i := x.num) (j := 8 * (q.den : Int)) (sm_n hx) s8
  have m2 := fun S => mul_sm (S := S) (i := -q.num) (j := (x.den : Int)) (by rw [Int.natAbs_neg]; exact Nat.le_trans hp.n (by decide +kernel)) (sm_d hx)
  have m3 := fun S => mul_sm (S := S) (i := (x.den : Int)) (j := 8 * (q.den : Int)) (sm_d hx) s8
  simp [F_beside, d_beside, runF, startP, endOf, dRet, dRetN, dIf, dIfS, dB, dBin, dUn, dV, dC, sE, asB, dSeq, dSet, dPar, dPar3, dAsg, dExpr, dAnd, dOr, dNot, bAnd, bOr, bNot, dTru, dCB, dCons, dNil, dTup, dLst, dChain, dPass, fCmpI, fIsN, gTp, gsCons, gsNil, gNm, mkTup, dSl, dPart, dNoPart, lim, iLt, iLe, iGt, iGe, ix_f0, ix_f2, p, up_is, ix_q0, ix_q1, ix_t0, ix_t1, m0, m1, m2, m3, w_add, w_neg, mk, r]
theorem down_is : c_DOWN = "down" := rfl
theorem e_next_up {f : Fm} {x : Rat} {S : Sto} (hf : FmOk f) (hx : Ok x) (h : IsNum f x) (ok : Ok (x + stp f)) : F_next_up [eF f, eQ x] S = .ok (eO (roundR f .up (x + stp f))) S := by
  have b := fun S => e_besideU (S := S) hf hx ok
  simp [F_next_up, d_next_up, runF, startP, endOf, dRet, dRetN, dIf, dIfS, dB, dBin, dUn, dV, dC, sE, asB, dSeq, dSet, dPar, dPar3, dAsg, dExpr, dAnd, dOr, dNot, bAnd, bOr, bNot, dTru, dCB, dCons, dNil, dTup, dLst, dChain, dPass, fCmpI, fIsN, gTp, gsCons, gsNil, gNm, mkTup, dSl, dPart, dNoPart, lim, iLt, iLe, iGt, iGe, e_chk_number hf hx h, up_is, b]
theorem e_next_down {f : Fm} {x : Rat} {S : Sto} (hf : FmOk f) (hx : Ok x) (h : IsNum f x) (ok : Ok (x - stp f)) : F_next_down [eF f, eQ x] S = .ok (eO (roundR f .down (x - stp f))) S := by
  have b := fun S => e_besideD (S := S) hf hx ok
  simp [F_next_down, d_next_down, runF, startP, endOf, dRet, dRetN, dIf, dIfS, dB, dBin, dUn, dV, dC, sE, asB, dSeq, dSet, dPar, dPar3, dAsg, dExpr, dAnd, dOr, dNot, bAnd, bOr, bNot, dTru, dCB, dCons, dNil, dTup, dLst, dChain, dPass, fCmpI, fIsN, gTp, gsCons, gsNil, gNm, mkTup, dSl, dPart, dNoPart, lim, iLt, iLe, iGt, iGe, e_chk_number hf hx h, down_is, b]
theorem stp_btw {f : Fm} (hf : FmOk f) : 0 < stp f ∧ stp f < pw f.b f.lo := by
  have p := pw_pos (b := f.b) (b_pos hf) f.lo
  unfold stp
  constructor <;> grind
theorem num_stp {f : Fm} {x : Rat} (hf : FmS f) (h : IsNum f x) : Ok x ∧ Ok (x + stp f) ∧ Ok (x - stp f) := by
  have b := num_ok hf h
  have p := pw_num (b_pos hf.ok) f.lo
  have e8 : Bd 8 (1 / 8 : Rat) := ⟨by decide +kernel, by decide +kernel⟩
  have l : f.b ^ f.lo.natAbs ≤ 10 ^ 140 := sh_le hf.ok (by omega)
  have s : Bd (10 ^ 140 * 8) (stp f) := Bd.mul (stp_ok hf.ok) e8
  exact ⟨b.ok (by decide +kernel), (Bd.add b s).ok (by decide +kernel), (Bd.sub b s).ok (by decide +kernel)⟩
/-- the neighbours, by the row -/
theorem e_up {f : Fm} {x : Rat} {xs : List Rat} {i : Nat} {S : Sto} (hf : FmS f) (h : Row f xs) (e : xs[i]? = some x) : F_next_up [eF f, eQ x] S = .ok (eO (xs[i + 1]?)) S := by
  have n : IsNum f x := (h.mem x).mp (List.mem_of_getElem? e)
  obtain ⟨o1, o2, o3⟩ := num_stp hf n
  have s := stp_btw hf.ok
  rw [e_next_up hf.ok o1 n o2, h.up hf.ok e (by grind) (by grind)]
theorem e_down {f : Fm} {x : Rat} {xs : List Rat} {i : Nat} {S : Sto} (hf : FmS f) (h : Row f xs) (e : xs[i]? = some x) : F_next_down [eF f, eQ x] S = .ok (eO (if 0 < i then xs[i - 1]? else none)) S := by
  have n : IsNum f x := (h.mem x).mp (List.mem_of_getElem? e)
  obtain ⟨o1, o2, o3⟩ := num_stp hf n
  have s := stp_btw hf.ok
  rw [e_next_down hf.ok o1 n o3, h.down hf.ok e (by grind) (by grind)]
end G04
end
section
set_option Elab.async false
set_option linter.all false
set_option maxRecDepth 100000
set_option maxHeartbeats 1000000
set_option exponentiation.threshold 5000
namespace G04
open PySem PySem.Spec PyProof.Rows L2 Mi Ra
/-! ### drawn formats, ways, fractions; what is the same -/
theorem shp_q (q : Rat) : SeqAt.shaped (dQ q) = true := by
  unfold SeqAt.shaped
  simp [dQ, PyData.canLay0, PyData.canLayAll0, PyData.depth, PyData.depthAll]
theorem toDL_q : ∀ xs : List Rat, toDL (xs.map eQ) = some (xs.map dQ)
  | [] => rfl
  | x :: r => by
    rw [List.map_cons, List.map_cons]
    have h := toDL_q r
    simp only [toDL, h]
    rfl
theorem shp_l (xs : List Rat) : PyData.canLayAll0 (xs.map dQ) = true ∧ PyData.depthAll (xs.map dQ) ≤ 2 := by
  induction xs with
  | nil => exact ⟨rfl, by simp [PyData.depthAll]⟩
  | cons x r ih =>
    rw [List.map_cons]
    refine ⟨by simp [PyData.canLayAll0, ih.1, dQ, PyData.canLay0], ?_⟩
    simp only [PyData.depthAll, dQ, PyData.depth]
    have := ih.2
    omega
theorem shp_list (xs : List Rat) : SeqAt.shaped (.list (xs.map dQ)) = true := by
  obtain ⟨a, b⟩ := shp_l xs
  unfold SeqAt.shaped
  simp only [PyData.canLay0, PyData.depth, a, Bool.true_and]
  exact decide_eq_true (by omega)
theorem any_q (x : Rat) (xs : List Rat) : ((xs.map dQ).any fun z => PyData.eqv z (dQ x)) = decide (x ∈ xs) := by
  induction xs with
  | nil => simp
  | cons a r ih =>
    rw [List.map_cons, List.any_cons, ih, eqv_q]
    by_cases h : a = x
    · subst h; simp
    · have : ¬ x = a := fun z => h z.symm
      simp [h, this]
theorem in_row (x : Rat) (xs : List Rat) (S : Sto) : fInD false (eQ x) (.nl (xs.map eQ)) S = .ok (.bl (decide (x ∈ xs))) S := by
  rw [← any_q]
  have h1 : toDS (eQ x) S = some (dQ x) := rfl
  have h2 : toDS (.nl (xs.map eQ)) S = some (.list (xs.map dQ)) := by
    show (toDL (xs.map eQ)).map PyData.list = _
    rw [toDL_q]
    rfl
  unfold fInD
  rw [h1, h2]
  simp only
  rw [if_pos ⟨shp_q x, shp_list xs⟩]
  rfl
def dO : Option Rat → PyData
  | none => .none
  | some q => dQ q
theorem eq_o (neg : Bool) (a b : Option Rat) (S : Sto) : fEq neg (eO a) (eO b) S = .ok (.bl (if neg = true then !decide (a = b) else decide (a = b))) S := by
  cases a with
  | none =>
    cases b with
    | none => cases neg <;> kernel_rfl
    | some q =>
      show (if SeqAt.shaped .none = true ∧ SeqAt.shaped (dQ q) = true then Res.ok (PV.bl (if neg = true then !PyData.eqv .none (dQ q) else PyData.eqv .none (dQ q))) S else .bad) = _
      rw [if_pos ⟨by decide +kernel, shp_q q⟩]
      simp [dQ, PyData.eqv]
  | some p =>
    cases b with
    | none =>
      show (if SeqAt.shaped (dQ p) = true ∧ SeqAt.shaped .none = true then Res.ok (PV.bl (if neg = true then !PyData.eqv (dQ p) .none else PyData.eqv (dQ p) .none)) S else .bad) = _
      rw [if_pos ⟨shp_q p, by decide +kernel⟩]
      simp [dQ, PyData.eqv]
    | some q =>
      have := eq_q neg p q S
      simp only [Option.some.injEq]
      exact this
theorem eq_oq (neg : Bool) (a : Option Rat) (q : Rat) (S : Sto) : fEq neg (eO a) (eQ q) S = .ok (.bl (if neg = true then !decide (a = some q) else decide (a = some q))) S := eq_o neg a (some q) S
/-- a drawn format -/
structure FmT (f : Fm) : Prop where
  b : f.b = 2 ∨ f.b = 3 ∨ f.b = 4 ∨ f.b = 10
  k0 : 1 ≤ f.k
  k1 : f.k ≤ 3
  k2 : 4 ≤ f.b → f.k ≤ 2
  l0 : -3 ≤ f.lo
  l1 : f.lo ≤ 3
  h0 : f.lo ≤ f.hi
  h1 : f.hi ≤ 3
theorem FmT.s {f : Fm} (h : FmT f) : FmS f := by
  obtain ⟨hb, k0, k1, k2, l0, l1, h0, h1⟩ := h
  have b0 : 2 ≤ f.b := by omega
  have b1 : f.b ≤ 10 := by omega
  have dg : digs f.b = 4 ∨ digs f.b = 7 ∨ digs f.b = 10 := by rcases hb with h | h | h | h <;> rw [h] <;> decide
  have pk : f.b ^ f.k.toNat ≤ 1000 := Nat.le_trans (Nat.pow_le_pow_left b1 _) (Nat.le_trans (Nat.pow_le_pow_right (by decide) (show f.k.toNat ≤ 3 by omega)) (by decide))
  refine ⟨⟨b0, by omega, k0, by omega, by omega, by omega, by omega, by omega, h0, ?_, ?_⟩, pk, by omega, by omega, b1⟩
  · exact Nat.le_trans (Nat.pow_le_pow_left b1 _) (Nat.le_trans (Nat.pow_le_pow_right (by decide) (show f.k.natAbs + max f.lo.natAbs f.hi.natAbs ≤ 6 by omega)) (by decide))
  · have m : f.k + ((max f.lo.natAbs f.hi.natAbs : Nat) : Int) ≤ 6 := by omega
    rcases dg with d | d | d <;> rw [d] <;> omega
end G04
end
section
set_option Elab.async false
set_option linter.all false
set_option maxRecDepth 100000
set_option maxHeartbeats 1000000
set_option exponentiation.threshold 5000
namespace G04
open PySem PySem.Spec PyProof.Rows L2 Mi Ra
/-! ### own looking over all numbers (k03) -/
theorem lcP_filter {α : Type} {f : PV → EnP → Option EnP} {dt : EnP → Sto → Res Bool} {de : EnP → Sto → Res PV} {ρ : EnP} {S : Sto} (enc g : α → PV) (p : α → Bool) (P : α → Prop) (h : ∀ x, P x → ∃ ρ1, f (enc x) ρ = some ρ1 ∧ dt ρ1 S = .ok (p x) S ∧ de ρ1 S = .ok (g x) S) :
    ∀ (xs : List α) (acc : List PV), (∀ x ∈ xs, P x) → acc.length + xs.length ≤ lim → lcP f dt de ρ (xs.map enc) acc S = .ok (acc ++ (xs.filter p).map g) S
  | [], acc, _, _ => by simp [lcP]
  | x :: xs, acc, hP, hl => by
    obtain ⟨ρ1, e1, e2, e3⟩ := h x (hP x List.mem_cons_self)
    rw [List.length_cons] at hl
    rw [List.map_cons, lcP]
    simp only [e1, e2]
    by_cases c : p x = true
    · have ih := lcP_filter enc g p P h xs (acc ++ [g x]) (fun y hy => hP y (List.mem_cons_of_mem _ hy)) (by rw [List.length_append, List.length_singleton]; omega)
      rw [c]
      simp only [e3]
      rw [if_pos (by omega), ih, List.filter_cons_of_pos c]
      simp
    · have ih := lcP_filter enc g p P h xs acc (fun y hy => hP y (List.mem_cons_of_mem _ hy)) (by omega)
      have c' : p x = false := by simpa using c
      rw [c']
      simp only
      rw [ih, List.filter_cons_of_neg c]
theorem dLc_filter {α : Type} {di : EnP → Sto → Res (List PV)} {f : PV → EnP → Option EnP} {dt : EnP → Sto → Res Bool} {de : EnP → Sto → Res PV} {ρ : EnP} {vs : List Nat} {S : Sto} {xs : List α} (enc g : α → PV) (p : α → Bool) (P : α → Prop) (hi : di ρ S = .ok (xs.map enc) S)
    (h : ∀ x, P x → ∃ ρ1, f (enc x) (wipeP ρ vs) = some ρ1 ∧ dt ρ1 S = .ok (p x) S ∧ de ρ1 S = .ok (g x) S) (hP : ∀ x ∈ xs, P x) (hl : xs.length ≤ lim) : dLc false di f dt de vs ρ S = .ok (.nl ((xs.filter p).map g)) S := by
  unfold dLc
  rw [hi, Res.bind_ok, lcP_filter enc g p P h xs [] hP (by simpa using hl), Res.bind_ok]
  unfold mkLst
  have := List.length_filter_le p xs
  rw [if_pos (by simp; omega)]
  simp
theorem ix_last {L : List Rat} {d : Rat} {S : Sto} (h : L.getLast? = some d) : fIx (.nl (L.map eQ)) (.int (-1)) S = .ok (eQ d) S := by
  have n : L ≠ [] := fun z => by rw [z] at h; cases h
  have l0 : 0 < L.length := List.length_pos_iff.mpr n
  have e : atI (L.map eQ) (-1) = some (eQ d) := by
    rw [List.getLast?_eq_getElem?] at h
    unfold atI ixN
    rw [if_neg (by omega), if_pos (by rw [List.length_map]; omega)]
    have q : (-1 + ((L.map eQ).length : Int)).toNat = L.length - 1 := by rw [List.length_map]; omega
    simp only [q, List.getElem?_map, Option.bind_some, h, Option.map_some]
  show (match atI (L.map eQ) (-1) with | some v => Res.ok v S | none => .bad) = _
  rw [e]
theorem ix_at {L : List Rat} {d : Rat} {i : Int} {S : Sto} (h0 : 0 ≤ i) (h : L[i.toNat]? = some d) : fIx (.nl (L.map eQ)) (.int i) S = .ok (eQ d) S := by
  have l := (List.getElem?_eq_some_iff.mp h).1
  have e : atI (L.map eQ) i = some (eQ d) := by
    unfold atI ixN
    rw [if_pos h0, if_pos (by rw [List.length_map]; omega)]
    simp only [List.getElem?_map, Option.bind_some, h, Option.map_some]
  show (match atI (L.map eQ) i with | some v => Res.ok v S | none => .bad) = _
  rw [e]
theorem ix_head {L : List Rat} {d : Rat} {S : Sto} (h : L.head? = some d) : fIx (.nl (L.map eQ)) (.int 0) S = .ok (eQ d) S :=
  ix_at (Int.le_refl _) (by cases L with | nil => cases h | cons a r => exact h)
theorem add_nl {a b : List PV} {S : Sto} (h : a.length + b.length ≤ lim) : fAdd false (.nl a) (.nl b) S = .ok (.nl (a ++ b)) S := by
  show mkLst false (a ++ b) S = _
  unfold mkLst
  rw [if_pos (by rw [List.length_append]; exact h)]
  rfl
theorem top_bd {f : Fm} (hf : FmS f) : Bd (10 ^ 14) (topR f) := by
  have p := pw_num (b_pos hf.ok) f.hi
  have l0 := hf.l0
  have h1 := hf.h1
  have lh := hf.ok.lh
  have pk := hf.pk
  have le : f.b ^ f.hi.natAbs ≤ 10 ^ 10 := Nat.le_trans (Nat.pow_le_pow_left hf.bb _) (Nat.pow_le_pow_right (by decide) (by omega))
  have e : topR f = ((f.b ^ f.k.toNat : Nat) : Rat) * pw f.b f.hi := pw_k hf.ok f.hi
  rw [e]
  exact (Bd.mul (nat_bd pk (by decide)) ⟨Nat.le_trans p.1 le, Nat.le_trans p.2 le⟩).mono (by decide)
theorem ext_ok {f : Fm} {r : Rat} (hf : FmS f) (h : Ext f r) : Bd (10 ^ 14) r := by
  rcases h with h | h | h
  · exact (num_ok hf h).mono (by decide)
  · rw [h]; exact top_bd hf
  · rw [h]; exact (top_bd hf).neg
theorem in_two (a b c : Rat) (S : Sto) : fInT false (eQ a) (.tup [eQ b, eQ c]) S = .ok (.bl (decide (a = b ∨ a = c))) S := by
  have h1 : toDS (eQ a) S = some (dQ a) := rfl
  have h2 : toDS (.tup [eQ b, eQ c]) S = some (.tuple [dQ b, dQ c]) := rfl
  have s2 : SeqAt.shaped (.tuple [dQ b, dQ c]) = true := by
    unfold SeqAt.shaped
    simp [dQ, PyData.canLay0, PyData.canLayAll0, PyData.depth, PyData.depthAll]
  unfold fInT
  rw [h1, h2]
  simp only
  rw [if_pos ⟨shp_q a, s2⟩]
  simp only [List.any_cons, List.any_nil, eqv_q, Bool.or_false]
  have e : (decide (b = a) || decide (c = a)) = decide (a = b ∨ a = c) := by
    rw [← Bool.decide_or]
    congr 1
    simp only [eq_iff_iff]
    constructor
    · rintro (h | h) <;> simp [h]
    · rintro (h | h) <;> simp [h]
  simp [e]
end G04
end
section
set_option Elab.async false
set_option linter.all false
set_option maxRecDepth 100000
set_option maxHeartbeats 1000000
set_option exponentiation.threshold 5000
namespace G04
open PySem PySem.Spec PyProof.Rows L2 Mi Ra
/-! ### offs, holds, numbers from one to another (k04, k05) -/
theorem most_pos {f : Fm} (hf : FmOk f) : 0 < mostR f := by
  have hb := b_pos hf
  have p := pw_pos hb f.hi
  have k : 1 < f.b ^ f.k.toNat := Nat.one_lt_pow (by have := hf.k0; omega) (by have := hf.b0; omega)
  unfold mostR
  exact Rat.mul_pos (Rat.natCast_lt_natCast (a := 0) |>.mpr (by omega)) p
theorem row_len {f : Fm} {xs : List Rat} (hf : FmOk f) (h : Row f xs) : 2 ≤ xs.length := by
  have a := (h.mem 0).mpr (zero_num hf)
  have b := (h.mem _).mpr (most_num hf)
  have p := most_pos hf
  cases xs with
  | nil => cases a
  | cons x r =>
    cases r with
    | nil =>
      rw [List.mem_singleton.mp b, ← List.mem_singleton.mp a] at p
      exact absurd p (by grind)
    | cons y r => simp
theorem len_row (xs : List Rat) (S : Sto) : fLen [.nl (xs.map eQ)] S = .ok (.int (xs.length : Int)) S := by rw [len_nl, List.length_map]
theorem eq_bl (neg a b : Bool) (S : Sto) : fEq neg (.bl a) (.bl b) S = .ok (.bl (if neg = true then !(a == b) else a == b)) S := by
  cases neg <;> cases a <;> cases b <;> kernel_rfl
theorem e_hold_of {f : Fm} {y : Wy} {x r : Rat} {S : Sto} (hf : FmOk f) (hx : Ok x) (e : roundR f y x = some r) (od : Ok (r - x)) : F_hold_of [eF f, eY y, eQ x] S = .ok (eH ⟨x, x, (r - x).abs⟩) S := by
  have er := e_raw_rounded (w := y) (S := S) hf hx
  have orr := er.2 r e
  have rr : ∀ S, F_raw_rounded [eF f, eY y, eQ x] S = .ok (eQ r) S := fun S => by
    have := (e_raw_rounded (w := y) (S := S) hf hx).1
    rw [e] at this
    exact this
  have n1 : isNon (eQ r) = false := rfl
  have l := fun S => e_raw_less (S := S) orr hx
  have o := fun S => rQ_ok (S := S) od
  simp [F_hold_of, d_hold_of, F_raw_hold_of, d_raw_hold_of, runF, startP, endOf, dRet, dRetN, dIf, dIfS, dB, dBin, dUn, dV, dC, sE, asB, dSeq, dSet, dPar, dPar3, dAsg, dExpr, dAnd, dOr, dNot, bAnd, bOr, bNot, dTru, dCB, dCons, dNil, dTup, dLst, dChain, dPass, fCmpI, fIsN, gTp, gsCons, gsNil, gNm, mkTup, dSl, dPart, dNoPart, lim, iLt, iLe, iGt, iGe, e_chk_format hf, e_chk_way, e_chkf hx, rr, n1, l, o, e_raw_size]
  rfl
theorem e_hold_ofN {f : Fm} {y : Wy} {x : Rat} {S : Sto} (hf : FmOk f) (hx : Ok x) (e : roundR f y x = none) : F_hold_of [eF f, eY y, eQ x] S = .ok .non S := by
  have rr : ∀ S, F_raw_rounded [eF f, eY y, eQ x] S = .ok .non S := fun S => by
    have := (e_raw_rounded (w := y) (S := S) hf hx).1
    rw [e] at this
    exact this
  have n1 : isNon .non = true := rfl
  simp [F_hold_of, d_hold_of, F_raw_hold_of, d_raw_hold_of, runF, startP, endOf, dRet, dRetN, dIf, dIfS, dB, dBin, dUn, dV, dC, sE, asB, dSeq, dSet, dPar, dPar3, dAsg, dExpr, dAnd, dOr, dNot, bAnd, bOr, bNot, dTru, dCB, dCons, dNil, dTup, dLst, dChain, dPass, fCmpI, fIsN, gTp, gsCons, gsNil, gNm, mkTup, dSl, dPart, dNoPart, lim, iLt, iLe, iGt, iGe, e_chk_format hf, e_chk_way, e_chkf hx, rr, n1]
theorem e_off_for {f : Fm} {y : Wy} {x : Rat} {S : Sto} (hf : FmOk f) (hx : Ok x) (o : Ok (offR f y x)) : F_off_for [eF f, eY y, eQ x] S = .ok (eQ (offR f y x)) S := by
  have r : ∀ S, F_raw_off [eF f, eY y, eQ x] S = .ok (eQ (offR f y x)) S := fun S => by
    rw [e_raw_off hf hx, rQ_ok o]
    split <;> rfl
  simp [F_off_for, d_off_for, runF, startP, endOf, dRet, dRetN, dIf, dIfS, dB, dBin, dUn, dV, dC, sE, asB, dSeq, dSet, dPar, dPar3, dAsg, dExpr, dAnd, dOr, dNot, bAnd, bOr, bNot, dTru, dCB, dCons, dNil, dTup, dLst, dChain, dPass, fCmpI, fIsN, gTp, gsCons, gsNil, gNm, mkTup, dSl, dPart, dNoPart, lim, iLt, iLe, iGt, iGe, e_chk_format hf, e_chk_way, e_chkf hx, r]
theorem half_eq : PV.tup [.int 1, .int 2] = eQ (1 / 2 : Rat) := by kernel_rfl
theorem ok_half : Ok (1 / 2 : Rat) := ⟨by decide +kernel, by decide +kernel⟩
theorem app_is {g : EnP → Sto → Res PV} {ρ : EnP} {S : Sto} {i n : Nat} {v : PV} {xs : List PV} (hg : g ρ S = .ok v S) (hi : ρ[i]? = some (some (.ref n))) (hs : S[n]? = some (SO.lst xs)) (hl : xs.length ≤ 10000) :
    dExpr (dApp (dV i) (dCons g dNil)) ρ S = .nx ρ (S.set n (SO.lst (xs ++ [v]))) := by
  have l : xs.length < 16777216 := by omega
  simp [dExpr, dApp, dV, hi, dCons, dNil, hg, fApp, hs, l, sE, lim]
/-- how many numbers a format has -/
theorem e_many_is {f : Fm} {xs : List Rat} {S : Sto} (hf : FmS f) (h : Row f xs) (hk : f.k ≤ 10) : F_numbers_many [eF f] S = .ok (.int (xs.length : Int)) S := by
  have hb := b_pos hf.ok
  have bb := hf.bb
  have b0 := hf.ok.b0
  have k0 := hf.ok.k0
  have l0 := hf.l0
  have h1 := hf.h1
  have lh := hf.ok.lh
  have pk := hf.pk
  have m0 := fun S => mul_sm (S := S) (i := f.k) (j := (f.b : Int)) (Nat.le_trans (show _ ≤ 10 by omega) (by decide +kernel)) (Nat.le_trans (show _ ≤ 10 by omega) (by decide +kernel))
  have kb : f.k * (f.b : Int) ≤ 10 * 10 := Int.mul_le_mul (by omega) (by omega) (by omega) (by omega)
  have p1 := fun S => e_power (b := f.b) (e := f.k - 1) (S := S) hb hf.ok.b1 (by omega)
  have p2 := fun S => e_power (b := f.b) (e := f.k) (S := S) hb hf.ok.b1 (by omega)
  have n1 := (pw_nn (b := f.b) (e := f.k - 1) (by omega)).1
  have n2 := (pw_nn (b := f.b) (e := f.k) (by omega)).1
  have a1 : (f.k - 1).natAbs = f.k.toNat - 1 := by omega
  have a2 : f.k.natAbs = f.k.toNat := by omega
  rw [a1] at n1
  rw [a2] at n2
  have q1 : ∀ S, fIx (eQ (pw f.b (f.k - 1))) (.int 0) S = .ok (.int ((f.b ^ (f.k.toNat - 1) : Nat) : Int)) S := fun S => by rw [ix_q0, n1]
  have q2 : ∀ S, fIx (eQ (pw f.b f.k)) (.int 0) S = .ok (.int ((f.b ^ f.k.toNat : Nat) : Int)) S := fun S => by rw [ix_q0, n2]
  have ql : f.b ^ (f.k.toNat - 1) ≤ f.b ^ f.k.toNat := Nat.pow_le_pow_right hb (by omega)
  have pp := Nat.pow_pos (n := f.k.toNat) hb
  have ct := h.count hf.ok
  generalize f.b ^ (f.k.toNat - 1) = Q at *
  generalize f.b ^ f.k.toNat = P at *
  have m1 := fun S => mul_sm (S := S) (i := 2) (j := (P : Int) - 1) (by decide +kernel) (Nat.le_trans (show _ ≤ 1000 by omega) (by decide +kernel))
  have m2 := fun S => mul_sm (S := S) (i := 2) (j := f.hi - f.lo) (by decide +kernel) (Nat.le_trans (show _ ≤ 100 by omega) (by decide +kernel))
  have m3 := fun S => mul_sm (S := S) (i := 2 * (f.hi - f.lo)) (j := (P : Int) - Q) (Nat.le_trans (show _ ≤ 1000 by omega) (by decide +kernel)) (Nat.le_trans (show _ ≤ 2000 by omega) (by decide +kernel))
  have res : 1 + 2 * ((P : Int) - 1) + 2 * (f.hi - f.lo) * ((P : Int) - Q) = (xs.length : Int) := by
    rw [ct]
    have e1 : (((f.hi - f.lo).toNat : Nat) : Int) = f.hi - f.lo := by omega
    have e2 : ((P - 1 : Nat) : Int) = (P : Int) - 1 := by omega
    have e3 : ((P - Q : Nat) : Int) = (P : Int) - Q := by omega
    rw [Int.natCast_add, Int.natCast_mul, Int.natCast_add, Int.natCast_mul, e1, e2, e3]
    generalize (P : Int) - Q = d
    generalize f.hi - f.lo = h
    have o : ((1 : Nat) : Int) = 1 := rfl
    have t : ((2 : Nat) : Int) = 2 := rfl
    rw [o, t, Int.mul_add, Int.mul_assoc, Int.add_assoc]
  rw [← res]
  have c : ¬ (200 : Int) < f.k * (f.b : Int) := by omega
  have cf := fun S => e_chk_format (S := S) hf.ok
  simp only [eF] at cf
  simp [F_numbers_many, d_numbers_many, runF, startP, endOf, dRet, dRetN, dIf, dIfS, dB, dBin, dUn, dV, dC, sE, asB, dSeq, dSet, dPar, dPar3, dAsg, dExpr, dAnd, dOr, dNot, bAnd, bOr, bNot, dTru, dCB, dCons, dNil, dTup, dLst, dChain, dPass, fCmpI, fIsN, gTp, gsCons, gsNil, gNm, mkTup, dSl, dPart, dNoPart, lim, iLt, iLe, iGt, iGe, eF, cf, m0, c, p1, p2, q1, q2, w_sub, w_add, m1, m2, m3]
def nfC : EnP → Sto → Res Bool := (bAnd (dB (dBin (fIsN true) (dV 4) (dC .non))) (dTru (dCB F_raw_at_most (dCons (dV 4) (dCons (dV 2) (dNil))))))
def nfB : EnP → Sto → SR := (dSeq (dExpr (dApp (dV 5) (dCons (dV 4) (dNil)))) (dSeq (dIfS (dB (dBin (fCmpI iGt) (dCB fLen (dCons (dV 5) (dNil))) (dC (.int c_MOST_LISTED)))) (dRaiseF ("TooMany" : Str) ("most" : Str) (dC (.int c_MOST_LISTED))) (dPass)) (dSet 4 (dCB F_beside (dCons (dV 0) (dCons (dV 4) (dCons (dC (.str c_UP)) (dNil))))))))
theorem nf_loop {f : Fm} {xs : List Rat} {y : Rat} {S0 : Sto} {a1 a3 : Option PV} (hf : FmS f) (h : Row f xs) (hy : Ok y) : ∀ (m i : Nat) (fs : List Rat), xs.length - i < m → fs.length + ((xs.drop i).takeWhile fun r => decide (r ≤ y)).length ≤ 500 →
    ∃ b4, whileP nfC nfB m [some (eF f), a1, some (eQ y), a3, some (eO (xs[i]?)), some (.ref S0.length)] (S0 ++ [SO.lst (fs.map eQ)]) = .nx [some (eF f), a1, some (eQ y), a3, b4, some (.ref S0.length)] (S0 ++ [SO.lst ((fs ++ (xs.drop i).takeWhile fun r => decide (r ≤ y)).map eQ)]) := by
  intro m
  induction m with
  | zero => intro i fs h; omega
  | succ m ih =>
    intro i fs hm hl
    rw [whileP]
    cases e : xs[i]? with
    | none =>
      have hi : xs.length ≤ i := List.getElem?_eq_none_iff.mp e
      have c : nfC [some (eF f), a1, some (eQ y), a3, some (eO none), some (.ref S0.length)] (S0 ++ [SO.lst (fs.map eQ)]) = .ok false (S0 ++ [SO.lst (fs.map eQ)]) := by
        have n2 : isNon .non = true := rfl
        simp [nfC, runF, startP, endOf, dRet, dRetN, dIf, dIfS, dB, dBin, dUn, dV, dC, sE, asB, dSeq, dSet, dPar, dPar3, dAsg, dExpr, dAnd, dOr, dNot, bAnd, bOr, bNot, dTru, dCB, dCons, dNil, dTup, dLst, dChain, dPass, fCmpI, fIsN, gTp, gsCons, gsNil, gNm, mkTup, dSl, dPart, dNoPart, lim, iLt, iLe, iGt, iGe, eO, n2]
      rw [c, List.drop_eq_nil_of_le hi]
      exact ⟨some (eO none), by simp [sE]⟩
    | some r =>
      obtain ⟨hi, er⟩ := List.getElem?_eq_some_iff.mp e
      have hr : IsNum f r := (h.mem r).mp (List.mem_of_getElem? e)
      obtain ⟨o1, o2, o3⟩ := num_stp hf hr
      have s := stp_btw hf.ok
      have le := fun S => e_raw_at_most (S := S) o1 hy
      have n1 : isNon (eQ r) = false := rfl
      have dr : xs.drop i = r :: xs.drop (i + 1) := by rw [List.drop_eq_getElem_cons hi, er]
      have c : nfC [some (eF f), a1, some (eQ y), a3, some (eO (some r)), some (.ref S0.length)] (S0 ++ [SO.lst (fs.map eQ)]) = .ok (decide (r ≤ y)) (S0 ++ [SO.lst (fs.map eQ)]) := by
        simp [nfC, runF, startP, endOf, dRet, dRetN, dIf, dIfS, dB, dBin, dUn, dV, dC, sE, asB, dSeq, dSet, dPar, dPar3, dAsg, dExpr, dAnd, dOr, dNot, bAnd, bOr, bNot, dTru, dCB, dCons, dNil, dTup, dLst, dChain, dPass, fCmpI, fIsN, gTp, gsCons, gsNil, gNm, mkTup, dSl, dPart, dNoPart, lim, iLt, iLe, iGt, iGe, eO, n1, le, truP]
      rw [c]
      by_cases q : r ≤ y
      · have tw : (xs.drop i).takeWhile (fun r => decide (r ≤ y)) = r :: (xs.drop (i + 1)).takeWhile fun r => decide (r ≤ y) := by
          rw [dr, List.takeWhile_cons_of_pos (by simpa using q)]
        rw [tw, List.length_cons] at hl
        obtain ⟨b4, hb⟩ := ih (i + 1) (fs ++ [r]) (by omega) (by rw [List.length_append, List.length_singleton]; omega)
        have bs := fun S => e_besideU (S := S) hf.ok o1 o2
        rw [h.up hf.ok e (by grind) (by grind)] at bs
        have a := app_is (g := dV 4) (ρ := [some (eF f), a1, some (eQ y), a3, some (eQ r), some (.ref S0.length)]) (S := S0 ++ [SO.lst (fs.map eQ)]) (i := 5) (n := S0.length) (v := eQ r) (xs := fs.map eQ) rfl rfl (mid_get _ _ []) (by rw [List.length_map]; omega)
        rw [mid_set] at a
        have ln : fLen [.ref S0.length] (S0 ++ [SO.lst (fs.map eQ ++ [eQ r])]) = .ok (.int ((fs.length + 1 : Nat) : Int)) (S0 ++ [SO.lst (fs.map eQ ++ [eQ r])]) := by
          have z : seqOf (.ref S0.length) (S0 ++ [SO.lst (fs.map eQ ++ [eQ r])]) = some (fs.map eQ ++ [eQ r]) := seq_ref (mid_get _ _ [])
          have e0 : fLen [.ref S0.length] (S0 ++ [SO.lst (fs.map eQ ++ [eQ r])]) = (match seqOf (.ref S0.length) (S0 ++ [SO.lst (fs.map eQ ++ [eQ r])]) with
            | some xs => Res.ok (PV.int (xs.length : Int)) (S0 ++ [SO.lst (fs.map eQ ++ [eQ r])])
            | none => .bad) := rfl
          rw [e0, z]
          simp
        have lg : ¬ (500 : Int) < ((fs.length + 1 : Nat) : Int) := by omega
        have d : nfB [some (eF f), a1, some (eQ y), a3, some (eO (some r)), some (.ref S0.length)] (S0 ++ [SO.lst (fs.map eQ)]) = .nx [some (eF f), a1, some (eQ y), a3, some (eO (xs[i + 1]?)), some (.ref S0.length)] (S0 ++ [SO.lst (fs.map eQ ++ [eQ r])]) := by
          have dd : nfB = dSeq (dExpr (dApp (dV 5) (dCons (dV 4) (dNil)))) (dSeq (dIfS (dB (dBin (fCmpI iGt) (dCB fLen (dCons (dV 5) (dNil))) (dC (.int c_MOST_LISTED)))) (dRaiseF ("TooMany" : Str) ("most" : Str) (dC (.int c_MOST_LISTED))) (dPass)) (dSet 4 (dCB F_beside (dCons (dV 0) (dCons (dV 4) (dCons (dC (.str c_UP)) (dNil))))))) := rfl
          rw [dd, dSeq]
          have a' : dExpr (dApp (dV 5) (dCons (dV 4) (dNil))) [some (eF f), a1, some (eQ y), a3, some (eO (some r)), some (.ref S0.length)] (S0 ++ [SO.lst (fs.map eQ)]) = _ := a
          rw [a']
          generalize S0 ++ [SO.lst (fs.map eQ ++ [eQ r])] = U at *
          simp only [runF, startP, endOf, dRet, dRetN, dIf, dIfS, dB, dBin, dUn, dV, dC, sE, asB, dSeq, dSet, dPar, dPar3, dAsg, dExpr, dAnd, dOr, dNot, bAnd, bOr, bNot, dTru, dCB, dCons, dNil, dTup, dLst, dChain, dPass, fCmpI, fIsN, gTp, gsCons, gsNil, gNm, mkTup, dSl, dPart, dNoPart, lim, iLt, iLe, iGt, iGe, List.getElem?_cons_succ, List.getElem?_cons_zero, Res.bind_ok, ln]
          rw [decide_eq_false lg]
          simp [runF, startP, endOf, dRet, dRetN, dIf, dIfS, dB, dBin, dUn, dV, dC, sE, asB, dSeq, dSet, dPar, dPar3, dAsg, dExpr, dAnd, dOr, dNot, bAnd, bOr, bNot, dTru, dCB, dCons, dNil, dTup, dLst, dChain, dPass, fCmpI, fIsN, gTp, gsCons, gsNil, gNm, mkTup, dSl, dPart, dNoPart, lim, iLt, iLe, iGt, iGe, up_is, bs]
        simp only [sE, q, decide_true, if_true, d]
        have me : (fs ++ [r]).map eQ = fs.map eQ ++ [eQ r] := by simp
        rw [me] at hb
        rw [tw]
        refine ⟨b4, ?_⟩
        rw [hb]
        simp
      · have tw : (xs.drop i).takeWhile (fun r => decide (r ≤ y)) = [] := by
          rw [dr, List.takeWhile_cons_of_neg (by simpa using q)]
        rw [tw]
        refine ⟨some (eO (some r)), ?_⟩
        simp [sE, q]
end G04
end
section
set_option Elab.async false
set_option linter.all false
set_option maxRecDepth 100000
set_option maxHeartbeats 1000000
set_option exponentiation.threshold 5000
namespace G04
open PySem PySem.Spec PyProof.Rows L2 Mi Ra
def btw (x y : Rat) (xs : List Rat) : List Rat := xs.filter fun r => decide (x ≤ r ∧ r ≤ y)
theorem tw_filter {y : Rat} : ∀ {L : List Rat}, L.Pairwise (· < ·) → (L.takeWhile fun r => decide (r ≤ y)) = L.filter fun r => decide (r ≤ y)
  | [], _ => rfl
  | a :: L, h => by
    obtain ⟨ha, hp⟩ := List.pairwise_cons.mp h
    by_cases c : a ≤ y
    · rw [List.takeWhile_cons_of_pos (by simpa using c), List.filter_cons_of_pos (by simpa using c), tw_filter hp]
    · rw [List.takeWhile_cons_of_neg (by simpa using c), List.filter_cons_of_neg (by simpa using c)]
      symm
      rw [List.filter_eq_nil_iff]
      intro r hr
      have := ha r hr
      simp only [decide_eq_true_eq]
      grind
theorem drop_btw {x y u : Rat} {xs : List Rat} {j : Nat} (so : xs.Pairwise (· < ·)) (e : xs[j]? = some u) (xu : x ≤ u) (m : ∀ r ∈ xs, x ≤ r → u ≤ r) : ((xs.drop j).takeWhile fun r => decide (r ≤ y)) = btw x y xs := by
  have sd : (xs.drop j).Pairwise (· < ·) := so.sublist (List.drop_sublist j xs)
  rw [tw_filter sd]
  refine so_uniq (sd.filter _) (so.filter _) fun q => ?_
  unfold btw
  rw [List.mem_filter, List.mem_filter]
  simp only [decide_eq_true_eq]
  obtain ⟨hj, ej⟩ := List.getElem?_eq_some_iff.mp e
  have sg := List.pairwise_iff_getElem.mp so
  constructor
  · rintro ⟨h1, h2⟩
    obtain ⟨i, hi, ei⟩ := List.getElem_of_mem h1
    rw [List.getElem_drop] at ei
    have hl : j + i < xs.length := by rw [List.length_drop] at hi; omega
    refine ⟨by rw [← ei]; exact List.getElem_mem hl, ?_, h2⟩
    by_cases z : i = 0
    · subst z
      have : xs[j + 0] = xs[j] := rfl
      grind
    · have := sg j (j + i) hj hl (by omega)
      grind
  · rintro ⟨h1, h2, h3⟩
    have uq := m q h1 h2
    obtain ⟨i, hi, ei⟩ := List.getElem_of_mem h1
    have ij : j ≤ i := by
      by_cases z : j ≤ i
      · exact z
      · have := sg i j hi hj (by omega)
        grind
    refine ⟨?_, h3⟩
    rw [← ei, List.mem_iff_getElem]
    refine ⟨i - j, by rw [List.length_drop]; omega, ?_⟩
    rw [List.getElem_drop]
    congr 1
    omega
/-- where one begins -/
theorem first_up {f : Fm} {xs : List Rat} {x : Rat} (hf : FmOk f) (h : Row f xs) (l0 : -mostR f ≤ x) (l1 : x ≤ mostR f) : ∃ (j : Nat) (u : Rat), roundR f .up x = xs[j]? ∧ xs[j]? = some u ∧ x ≤ u ∧ ∀ r ∈ xs, x ≤ r → u ≤ r := by
  have ml : mostR f < topR f := most_lt hf
  have lx : x.abs < topR f := by rw [abs_is']; split <;> grind
  have u1 := above hf lx (.inl (most_num hf)) l1
  have u2 := le_up x hf
  have nu : IsNum f (upR f x) := by
    rcases up_ext hf lx with q | q | q
    · exact q
    · grind
    · grind
  obtain ⟨j, hj, ej⟩ := List.getElem_of_mem ((h.mem _).mpr nu)
  have e : xs[j]? = some (upR f x) := by rw [List.getElem?_eq_getElem hj, ej]
  refine ⟨j, upR f x, ?_, e, u2, fun r hr q => above hf lx (.inl ((h.mem r).mp hr)) q⟩
  rw [roundR_is hf lx, rnd_up, e, if_neg]
  grind
theorem tup_ref {n : Nat} {xs : List PV} {S : Sto} (h : S[n]? = some (SO.lst xs)) (l : xs.length ≤ lim) : fTuple [.ref n] S = .ok (.tup xs) S := by
  have e : lstOf (.ref n) S = some xs := by
    show (match S[n]? with | some (SO.lst xs) => some xs | _ => none) = _
    rw [h]
  show (match lstOf (.ref n) S with | some xs => if xs.length ≤ lim then Res.ok (PV.tup xs) S else .bad | none => .bad) = _
  rw [e]
  simp only
  rw [if_pos l]
def nfH : EnP → Sto → SR := (dSet 4 (dIf (dTru (dCB F_raw_at_most (dCons (dTup (dCons (dUn fNeg (dBin fIx (dV 3) (dC (.int 0)))) (dCons (dBin fIx (dV 3) (dC (.int 1))) (dNil)))) (dCons (dV 1) (dNil))))) (dCB F_raw_rounded (dCons (dV 0) (dCons (dC (.str c_UP)) (dCons (dV 1) (dNil))))) (dTup (dCons (dUn fNeg (dBin fIx (dV 3) (dC (.int 0)))) (dCons (dBin fIx (dV 3) (dC (.int 1))) (dNil))))))
def nfI : EnP → Sto → SR := (dIfS (bOr (bAnd (dTru (dCB F_raw_at_most (dCons (dV 3) (dCons (dV 1) (dNil))))) (dB (dBin (fEq true) (dV 3) (dV 1)))) (bAnd (dTru (dCB F_raw_at_most (dCons (dV 2) (dCons (dTup (dCons (dUn fNeg (dBin fIx (dV 3) (dC (.int 0)))) (dCons (dBin fIx (dV 3) (dC (.int 1))) (dNil)))) (dNil))))) (dB (dBin (fEq true) (dV 2) (dTup (dCons (dUn fNeg (dBin fIx (dV 3) (dC (.int 0)))) (dCons (dBin fIx (dV 3) (dC (.int 1))) (dNil)))))))) (dRet (dTup (dNil))) (dPass))
theorem e_from {f : Fm} {xs : List Rat} {x y : Rat} (hf : FmS f) (h : Row f xs) (ox : Ok x) (oy : Ok y) (le : x ≤ y) (cnt : (btw x y xs).length ≤ 500) (S : Sto) : ∃ l, F_numbers_from [eF f, eQ x, eQ y] S = .ok (.tup ((btw x y xs).map eQ)) (S ++ l) := by
  have om := most_ok hf.ok
  have cf := fun S => e_chk_format (S := S) hf.ok
  have c2 := fun S => e_chk2 (S := S) ox oy
  have a0 := fun S => e_raw_at_most (S := S) ox oy
  have rm := fun S => e_raw_most (S := S) hf.ok
  have a1 := fun S => e_raw_at_most (S := S) om ox
  have a2 := fun S => e_raw_at_most (S := S) oy (okn om)
  have a3 := fun S => e_raw_at_most (S := S) (okn om) ox
  have q1 := fun S => eq_q true (mostR f) x S
  have q2 := fun S => eq_q true y (-mostR f) S
  have mp := most_pos hf.ok
  have out : ∀ r ∈ xs, -mostR f ≤ r ∧ r ≤ mostR f := fun r hr => (abs_le (x := r) (o := mostR f)).mp ((h.mem r).mp hr).le
  have dd : d_numbers_from = dSeq (dExpr (dCB F_check_format (dCons (dV 0) (dNil)))) (dSeq (dExpr (dCB F_check_two (dCons (dV 1) (dCons (dV 2) (dNil))))) (dSeq (dIfS (bNot (dTru (dCB F_raw_at_most (dCons (dV 1) (dCons (dV 2) (dNil)))))) (dRaise ("NoStretch" : Str)) (dPass)) (dSeq (dSet 3 (dCB F_raw_most (dCons (dV 0) (dNil)))) (dSeq nfI (dSeq nfH (dSeq (dSet 5 (dLst true (dNil))) (dSeq (whileP nfC nfB fuel) (dRet (dCB fTuple (dCons (dV 5) (dNil)))))))))))  := rfl
  by_cases b1 : mostR f < x
  · have em : btw x y xs = [] := by
      unfold btw
      rw [List.filter_eq_nil_iff]
      intro r hr
      have := out r hr
      simp only [decide_eq_true_eq]
      grind
    refine ⟨[], ?_⟩
    have i1 : mostR f ≤ x := by grind
    have i2 : ¬ mostR f = x := by grind
    rw [em, List.append_nil]
    have I : nfI [some (eF f), some (eQ x), some (eQ y), some (eQ (mostR f)), none, none] S = .rt (.tup []) S := by
      simp [nfI, runF, startP, endOf, dRet, dRetN, dIf, dIfS, dB, dBin, dUn, dV, dC, sE, asB, dSeq, dSet, dPar, dPar3, dAsg, dExpr, dAnd, dOr, dNot, bAnd, bOr, bNot, dTru, dCB, dCons, dNil, dTup, dLst, dChain, dPass, fCmpI, fIsN, gTp, gsCons, gsNil, gNm, mkTup, dSl, dPart, dNoPart, lim, iLt, iLe, iGt, iGe, a1, i1, q1, i2, truP]
    simp [F_numbers_from, dd, runF, startP, endOf, dRet, dRetN, dIf, dIfS, dB, dBin, dUn, dV, dC, sE, asB, dSeq, dSet, dPar, dPar3, dAsg, dExpr, dAnd, dOr, dNot, bAnd, bOr, bNot, dTru, dCB, dCons, dNil, dTup, dLst, dChain, dPass, fCmpI, fIsN, gTp, gsCons, gsNil, gNm, mkTup, dSl, dPart, dNoPart, lim, iLt, iLe, iGt, iGe, cf, c2, a0, le, rm, truP, I]
  · by_cases b2 : y < -mostR f
    · have em : btw x y xs = [] := by
        unfold btw
        rw [List.filter_eq_nil_iff]
        intro r hr
        have := out r hr
        simp only [decide_eq_true_eq]
        grind
      refine ⟨[], ?_⟩
      have i1 : ¬ mostR f ≤ x := by grind
      have i2 : y ≤ -mostR f := by grind
      have i3 : ¬ y = -mostR f := by grind
      rw [em, List.append_nil]
      have I : nfI [some (eF f), some (eQ x), some (eQ y), some (eQ (mostR f)), none, none] S = .rt (.tup []) S := by
        simp [nfI, runF, startP, endOf, dRet, dRetN, dIf, dIfS, dB, dBin, dUn, dV, dC, sE, asB, dSeq, dSet, dPar, dPar3, dAsg, dExpr, dAnd, dOr, dNot, bAnd, bOr, bNot, dTru, dCB, dCons, dNil, dTup, dLst, dChain, dPass, fCmpI, fIsN, gTp, gsCons, gsNil, gNm, mkTup, dSl, dPart, dNoPart, lim, iLt, iLe, iGt, iGe, a1, i1, ix_q0, ix_q1, w_neg, q_neg, a2, i2, q2, i3, truP]
      simp [F_numbers_from, dd, runF, startP, endOf, dRet, dRetN, dIf, dIfS, dB, dBin, dUn, dV, dC, sE, asB, dSeq, dSet, dPar, dPar3, dAsg, dExpr, dAnd, dOr, dNot, bAnd, bOr, bNot, dTru, dCB, dCons, dNil, dTup, dLst, dChain, dPass, fCmpI, fIsN, gTp, gsCons, gsNil, gNm, mkTup, dSl, dPart, dNoPart, lim, iLt, iLe, iGt, iGe, cf, c2, a0, le, rm, truP, I]
    · have I : nfI [some (eF f), some (eQ x), some (eQ y), some (eQ (mostR f)), none, none] S = .nx [some (eF f), some (eQ x), some (eQ y), some (eQ (mostR f)), none, none] S := by
        by_cases i1 : mostR f ≤ x
        · have i2 : mostR f = x := by grind
          by_cases i3 : y ≤ -mostR f
          · have i4 : y = -mostR f := by grind
            simp [nfI, runF, startP, endOf, dRet, dRetN, dIf, dIfS, dB, dBin, dUn, dV, dC, sE, asB, dSeq, dSet, dPar, dPar3, dAsg, dExpr, dAnd, dOr, dNot, bAnd, bOr, bNot, dTru, dCB, dCons, dNil, dTup, dLst, dChain, dPass, fCmpI, fIsN, gTp, gsCons, gsNil, gNm, mkTup, dSl, dPart, dNoPart, lim, iLt, iLe, iGt, iGe, a1, i1, q1, ix_q0, ix_q1, w_neg, q_neg, a2, i3, q2, truP, decide_eq_true i2, decide_eq_true i4]
          · simp [nfI, runF, startP, endOf, dRet, dRetN, dIf, dIfS, dB, dBin, dUn, dV, dC, sE, asB, dSeq, dSet, dPar, dPar3, dAsg, dExpr, dAnd, dOr, dNot, bAnd, bOr, bNot, dTru, dCB, dCons, dNil, dTup, dLst, dChain, dPass, fCmpI, fIsN, gTp, gsCons, gsNil, gNm, mkTup, dSl, dPart, dNoPart, lim, iLt, iLe, iGt, iGe, a1, i1, q1, ix_q0, ix_q1, w_neg, q_neg, a2, i3, truP, decide_eq_true i2]
        · by_cases i3 : y ≤ -mostR f
          · have i4 : y = -mostR f := by grind
            simp [nfI, runF, startP, endOf, dRet, dRetN, dIf, dIfS, dB, dBin, dUn, dV, dC, sE, asB, dSeq, dSet, dPar, dPar3, dAsg, dExpr, dAnd, dOr, dNot, bAnd, bOr, bNot, dTru, dCB, dCons, dNil, dTup, dLst, dChain, dPass, fCmpI, fIsN, gTp, gsCons, gsNil, gNm, mkTup, dSl, dPart, dNoPart, lim, iLt, iLe, iGt, iGe, a1, i1, ix_q0, ix_q1, w_neg, q_neg, a2, i3, q2, truP, decide_eq_true i4]
          · simp [nfI, runF, startP, endOf, dRet, dRetN, dIf, dIfS, dB, dBin, dUn, dV, dC, sE, asB, dSeq, dSet, dPar, dPar3, dAsg, dExpr, dAnd, dOr, dNot, bAnd, bOr, bNot, dTru, dCB, dCons, dNil, dTup, dLst, dChain, dPass, fCmpI, fIsN, gTp, gsCons, gsNil, gNm, mkTup, dSl, dPart, dNoPart, lim, iLt, iLe, iGt, iGe, a1, i1, ix_q0, ix_q1, w_neg, q_neg, a2, i3, truP]
      have st : ∃ (j : Nat) (u : Rat), xs[j]? = some u ∧ x ≤ u ∧ (∀ r ∈ xs, x ≤ r → u ≤ r) ∧ nfH [some (eF f), some (eQ x), some (eQ y), some (eQ (mostR f)), none, none] S = .nx [some (eF f), some (eQ x), some (eQ y), some (eQ (mostR f)), some (eO (xs[j]?)), none] S := by
        by_cases i1 : -mostR f ≤ x
        · obtain ⟨j, u, e1, e2, e3, e4⟩ := first_up hf.ok h i1 (by grind)
          refine ⟨j, u, e2, e3, e4, ?_⟩
          have rr := fun S => (e_raw_rounded (w := .up) (S := S) hf.ok ox).1
          have ey : eY .up = .str "up" := rfl
          rw [ey, e1] at rr
          simp [nfH, runF, startP, endOf, dRet, dRetN, dIf, dIfS, dB, dBin, dUn, dV, dC, sE, asB, dSeq, dSet, dPar, dPar3, dAsg, dExpr, dAnd, dOr, dNot, bAnd, bOr, bNot, dTru, dCB, dCons, dNil, dTup, dLst, dChain, dPass, fCmpI, fIsN, gTp, gsCons, gsNil, gNm, mkTup, dSl, dPart, dNoPart, lim, iLt, iLe, iGt, iGe, ix_q0, ix_q1, w_neg, q_neg, a3, i1, truP, up_is, rr]
        · have nm := (most_num hf.ok).neg
          obtain ⟨j, hj, ej⟩ := List.getElem_of_mem ((h.mem _).mpr nm)
          refine ⟨j, -mostR f, by rw [List.getElem?_eq_getElem hj, ej], by grind, fun r hr _ => (out r hr).1, ?_⟩
          rw [List.getElem?_eq_getElem hj, ej]
          simp [nfH, runF, startP, endOf, dRet, dRetN, dIf, dIfS, dB, dBin, dUn, dV, dC, sE, asB, dSeq, dSet, dPar, dPar3, dAsg, dExpr, dAnd, dOr, dNot, bAnd, bOr, bNot, dTru, dCB, dCons, dNil, dTup, dLst, dChain, dPass, fCmpI, fIsN, gTp, gsCons, gsNil, gNm, mkTup, dSl, dPart, dNoPart, lim, iLt, iLe, iGt, iGe, ix_q0, ix_q1, w_neg, q_neg, a3, i1, truP, eO]
      obtain ⟨j, u, e1, e2, e3, hH⟩ := st
      have db := drop_btw (y := y) h.so e1 e2 e3
      obtain ⟨b4, hl⟩ := nf_loop (S0 := S) (a1 := some (eQ x)) (a3 := some (eQ (mostR f))) hf h oy fuel j [] (by
        have ct := h.count hf.ok
        have hi := hf.h1
        have l0 := hf.l0
        have pk := hf.pk
        have : (f.hi - f.lo).toNat ≤ 20 := by omega
        have m := Nat.mul_le_mul this (show f.b ^ f.k.toNat - f.b ^ (f.k.toNat - 1) ≤ 1000 by omega)
        exact Nat.lt_of_le_of_lt (show _ ≤ 100000 by omega) (fuel_big (n := 100000) (by decide +kernel))) (by rw [db]; simpa using cnt)
      rw [db] at hl
      refine ⟨[SO.lst ((btw x y xs).map eQ)], ?_⟩
      have nl : dSet 5 (dLst true (dNil)) [some (eF f), some (eQ x), some (eQ y), some (eQ (mostR f)), some (eO (xs[j]?)), none] S = .nx [some (eF f), some (eQ x), some (eQ y), some (eQ (mostR f)), some (eO (xs[j]?)), some (.ref S.length)] (S ++ [SO.lst (([] : List Rat).map eQ)]) := rfl
      have tr_ := tup_ref (n := S.length) (xs := (btw x y xs).map eQ) (S := S ++ [SO.lst ((btw x y xs).map eQ)]) (mid_get _ _ []) (by rw [List.length_map]; unfold lim; omega)
      rw [List.nil_append] at hl
      have s1 : (dExpr (dCB F_check_format (dCons (dV 0) (dNil)))) [some (eF f), some (eQ x), some (eQ y), none, none, none] S = .nx [some (eF f), some (eQ x), some (eQ y), none, none, none] S := by simp [runF, startP, endOf, dRet, dRetN, dIf, dIfS, dB, dBin, dUn, dV, dC, sE, asB, dSeq, dSet, dPar, dPar3, dAsg, dExpr, dAnd, dOr, dNot, bAnd, bOr, bNot, dTru, dCB, dCons, dNil, dTup, dLst, dChain, dPass, fCmpI, fIsN, gTp, gsCons, gsNil, gNm, mkTup, dSl, dPart, dNoPart, lim, iLt, iLe, iGt, iGe, cf]
      have s2 : (dExpr (dCB F_check_two (dCons (dV 1) (dCons (dV 2) (dNil))))) [some (eF f), some (eQ x), some (eQ y), none, none, none] S = .nx [some (eF f), some (eQ x), some (eQ y), none, none, none] S := by simp [runF, startP, endOf, dRet, dRetN, dIf, dIfS, dB, dBin, dUn, dV, dC, sE, asB, dSeq, dSet, dPar, dPar3, dAsg, dExpr, dAnd, dOr, dNot, bAnd, bOr, bNot, dTru, dCB, dCons, dNil, dTup, dLst, dChain, dPass, fCmpI, fIsN, gTp, gsCons, gsNil, gNm, mkTup, dSl, dPart, dNoPart, lim, iLt, iLe, iGt, iGe, c2]
      have s3 : (dIfS (bNot (dTru (dCB F_raw_at_most (dCons (dV 1) (dCons (dV 2) (dNil)))))) (dRaise ("NoStretch" : Str)) (dPass)) [some (eF f), some (eQ x), some (eQ y), none, none, none] S = .nx [some (eF f), some (eQ x), some (eQ y), none, none, none] S := by simp [runF, startP, endOf, dRet, dRetN, dIf, dIfS, dB, dBin, dUn, dV, dC, sE, asB, dSeq, dSet, dPar, dPar3, dAsg, dExpr, dAnd, dOr, dNot, bAnd, bOr, bNot, dTru, dCB, dCons, dNil, dTup, dLst, dChain, dPass, fCmpI, fIsN, gTp, gsCons, gsNil, gNm, mkTup, dSl, dPart, dNoPart, lim, iLt, iLe, iGt, iGe, a0, le, truP]
      have s4 : (dSet 3 (dCB F_raw_most (dCons (dV 0) (dNil)))) [some (eF f), some (eQ x), some (eQ y), none, none, none] S = .nx [some (eF f), some (eQ x), some (eQ y), some (eQ (mostR f)), none, none] S := by simp [runF, startP, endOf, dRet, dRetN, dIf, dIfS, dB, dBin, dUn, dV, dC, sE, asB, dSeq, dSet, dPar, dPar3, dAsg, dExpr, dAnd, dOr, dNot, bAnd, bOr, bNot, dTru, dCB, dCons, dNil, dTup, dLst, dChain, dPass, fCmpI, fIsN, gTp, gsCons, gsNil, gNm, mkTup, dSl, dPart, dNoPart, lim, iLt, iLe, iGt, iGe, rm]
      show endOf (d_numbers_from [some (eF f), some (eQ x), some (eQ y), none, none, none] S) = _
      rw [dd]
      simp only [dSeq, s1, s2, s3, s4, I, hH, nl, hl]
      simp only [dRet, dCB, dCons, dNil, dV, List.getElem?_cons_succ, List.getElem?_cons_zero, Res.bind_ok, tr_, sE, endOf]
end G04
end
section
set_option Elab.async false
set_option linter.all false
set_option maxRecDepth 100000
set_option maxHeartbeats 1000000
set_option exponentiation.threshold 5000
namespace G04
open PySem PySem.Spec PyProof.Rows L2 Mi Ra
/-! ### what one turn asks (k04) -/
theorem eqvAllT : ∀ L : List Rat, PyData.eqvAll (L.map dQ) (L.map dQ) = true
  | [] => rfl
  | x :: L => by
    rw [List.map_cons]
    have e := eqv_q x x
    simp [PyData.eqvAll, e, eqvAllT L]
theorem shp_tupl (xs : List Rat) : SeqAt.shaped (.tuple (xs.map dQ)) = true := by
  obtain ⟨a, b⟩ := shp_l xs
  unfold SeqAt.shaped
  simp only [PyData.canLay0, PyData.depth, a, Bool.true_and]
  exact decide_eq_true (by omega)
theorem eq_tupl (neg : Bool) (L : List Rat) (S : Sto) : fEq neg (.tup (L.map eQ)) (.tup (L.map eQ)) S = .ok (.bl (!neg)) S := by
  have h2 : toDS (.tup (L.map eQ)) S = some (.tuple (L.map dQ)) := by
    show (toDL (L.map eQ)).map PyData.tuple = _
    rw [toDL_q]
    rfl
  have e : PyData.eqv (.tuple (L.map dQ)) (.tuple (L.map dQ)) = true := by
    have := eqvAllT L
    simp [PyData.eqv, this]
  show (match toDS (.tup (L.map eQ)) S, toDS (.tup (L.map eQ)) S with | some d, some e => if SeqAt.shaped d = true ∧ SeqAt.shaped e = true then Res.ok (PV.bl (if neg = true then !PyData.eqv d e else PyData.eqv d e)) S else .bad | _, _ => .bad) = _
  rw [h2]
  simp only
  rw [if_pos ⟨shp_tupl L, shp_tupl L⟩, e]
  cases neg <;> rfl
theorem tup_nl {L : List PV} {S : Sto} (h : L.length ≤ lim) : fTuple [.nl L] S = .ok (.tup L) S := by
  show (if L.length ≤ lim then Res.ok (PV.tup L) S else .bad) = _
  rw [if_pos h]
theorem in_most {f : Fm} {y : Rat} (hf : FmOk f) (l : y.abs ≤ mostR f) : y.abs < topR f ∧ IsNum f (dnR f y) ∧ IsNum f (upR f y) ∧ roundR f .down y = some (dnR f y) ∧ roundR f .up y = some (upR f y) ∧ upR f y - dnR f y ≤ gapR f y := by
  have ml : mostR f < topR f := most_lt hf
  have lt : y.abs < topR f := by grind
  have a := (abs_le (x := y) (o := mostR f)).mp l
  have d1 := dn_le y hf
  have u1 := le_up y hf
  have d2 := below hf lt (.inl (most_num hf).neg) a.1
  have u2 := above hf lt (.inl (most_num hf)) a.2
  have nd : IsNum f (dnR f y) := by
    rcases dn_ext hf lt with q | q | q
    · exact q
    · grind
    · grind
  have nu : IsNum f (upR f y) := by
    rcases up_ext hf lt with q | q | q
    · exact q
    · grind
    · grind
  have t := top_no hf
  refine ⟨lt, nd, nu, ?_, ?_, ?_⟩
  · rw [roundR_is hf lt, rnd_dn, if_neg]
    rintro (q | q)
    · exact t.1 (q ▸ nd)
    · exact t.2 (q ▸ nd)
  · rw [roundR_is hf lt, rnd_up, if_neg]
    rintro (q | q)
    · exact t.1 (q ▸ nu)
    · exact t.2 (q ▸ nu)
  · by_cases e : dnR f y = upR f y
    · have := gap_pos hf y
      grind
    · have := (rnd_nearE hf e).1
      grind
theorem ex_80 {f : Fm} {y : Rat} (hf : FmS f) (l : y.abs ≤ ((10 ^ 15 : Nat) : Rat)) : exO f y ≤ f.lo + 80 := by
  have hb : 1 ≤ f.b := b_pos hf.ok
  have k0 := hf.ok.k0
  have l0 := hf.l0
  have p : ((10 ^ 15 : Nat) : Rat) < pw f.b (f.k + (f.lo + 80)) := by
    unfold pw
    rw [if_pos (by omega)]
    refine Rat.natCast_lt_natCast.mpr ?_
    have h1 : 2 ^ 60 ≤ 2 ^ (f.k + (f.lo + 80)).natAbs := Nat.pow_le_pow_right (by decide) (by omega)
    have h2 : 2 ^ (f.k + (f.lo + 80)).natAbs ≤ f.b ^ (f.k + (f.lo + 80)).natAbs := Nat.pow_le_pow_left hf.ok.b0 _
    exact Nat.lt_of_lt_of_le (by decide) (Nat.le_trans h1 h2)
  have l2 : y.abs < pw f.b (f.k + (f.lo + 80)) := by grind
  have e := exO_of (f := f) (x := y) (E := f.lo + 80) (by omega) l2
  exact IsEx.le hb e (by omega) l2
theorem abs_num_le (x : Rat) : x.abs ≤ ((x.num.natAbs : Nat) : Rat) := by
  rw [← abs_cast, num_is, abs_mul]
  have d1 : (1 : Rat) ≤ ((x.den : Nat) : Rat).abs := by
    have e2 : ((x.den : Nat) : Rat).abs = (x.den : Rat) := by
      rw [abs_is', if_neg]
      have := nat_le.mpr (Nat.zero_le x.den)
      have z : ((0 : Nat) : Rat) = 0 := rfl
      grind
    rw [e2]
    exact nat_le.mpr x.den_pos
  have := Rat.mul_le_mul_of_nonneg_left d1 (abs_nn' x)
  rw [Rat.mul_one] at this
  exact this
def tnT : EnP → Sto → SR := (dSeq (dSet 11 (dBin fIx (dLc false (iSeq (dV 6)) (cNm 12) (dTru (dCB F_law_is_most_L (dCons (dV 12) (dCons (dV 10) (dNil))))) (dV 12) [12]) (dUn fNeg (dC (.int 1))))) (dSeq (dSet 13 (dBin fIx (dLc false (iSeq (dV 6)) (cNm 12) (dTru (dCB F_law_is_most_L (dCons (dV 10) (dCons (dV 12) (dNil))))) (dV 12) [12]) (dC (.int 0)))) (dSeq (dIfS (bOr (dB (dBin (fEq true) (dCB F_rounded (dCons (dV 5) (dCons (dC (.str ("down" : Str))) (dCons (dV 10) (dNil))))) (dV 11))) (dB (dBin (fEq true) (dCB F_rounded (dCons (dV 5) (dCons (dC (.str ("up" : Str))) (dCons (dV 10) (dNil))))) (dV 13)))) (dRet (dC (.bl false))) (dPass)) (dSeq (dIfS (bNot (dTru (dCB F_law_is_most_L (dCons (dCB F_law_less_L (dCons (dV 13) (dCons (dV 11) (dNil)))) (dCons (dCB F_off_for (dCons (dV 5) (dCons (dC (.str ("down" : Str))) (dCons (dV 10) (dNil))))) (dNil)))))) (dRet (dC (.bl false))) (dPass)) (dSeq (dIfS (dB (dBin (fEq true) (dCB F_hold_of (dCons (dV 5) (dCons (dC (.str ("up" : Str))) (dCons (dV 10) (dNil))))) (dTup (dCons (dV 10) (dCons (dV 10) (dCons (dCB F_law_less_L (dCons (dV 13) (dCons (dV 10) (dNil)))) (dNil))))))) (dRet (dC (.bl false))) (dPass)) (dIfS (dB (dBin (fIs true) (dCB F_at_most (dCons (dV 11) (dCons (dV 13) (dNil)))) (dC (.bl true)))) (dRet (dC (.bl false))) (dPass)))))))
def tnP : EnP → Sto → Res Bool := (dTru (dCB F_law_is_most_L (dCons (dCB F_law_size_L (dCons (dV 10) (dNil))) (dCons (dBin fIx (dV 6) (dUn fNeg (dC (.int 1)))) (dNil)))))
def tnL : EnP → Sto → Res PV := dLc false (iSeq (dV 6)) (cNm 12) (dTru (dCB F_law_is_most_L (dCons (dV 12) (dCons (dV 10) (dNil))))) (dV 12) [12]
def tnR : EnP → Sto → Res PV := dLc false (iSeq (dV 6)) (cNm 12) (dTru (dCB F_law_is_most_L (dCons (dV 10) (dCons (dV 12) (dNil))))) (dV 12) [12]
def tnB : EnP → Sto → Res PV := dLc false (iSeq (dV 6)) (cNm 12) (bAnd (dTru (dCB F_law_is_most_L (dCons (dV 10) (dCons (dV 12) (dNil))))) (dTru (dCB F_law_is_most_L (dCons (dV 12) (dCons (dV 14) (dNil)))))) (dV 12) [12]
theorem tn_L {f : Fm} {xs : List Rat} {y : Rat} {S : Sto} {a0 a1 a2 a3 a4 a5 a7 a8 a9 a11 a12 a13 a14 a15 : Option PV} (hf : FmS f) (h : Row f xs) (hy : Ok y) (hl : xs.length ≤ 100000) :
    tnL [a0, a1, a2, a3, a4, a5, some (.nl (xs.map eQ)), a7, a8, a9, some (eQ y), a11, a12, a13, a14, a15] S = .ok (.nl ((xs.filter fun r => decide (r ≤ y)).map eQ)) S :=
  dLc_filter (α := Rat) (S := S) (di := iSeq (dV 6)) (f := cNm 12) (dt := dTru (dCB F_law_is_most_L (dCons (dV 12) (dCons (dV 10) (dNil))))) (de := dV 12) (ρ := [a0, a1, a2, a3, a4, a5, some (.nl (xs.map eQ)), a7, a8, a9, some (eQ y), a11, a12, a13, a14, a15]) (vs := [12]) eQ eQ (fun r => decide (r ≤ y)) (fun r => IsNum f r) rfl
    (fun r hr => ⟨[a0, a1, a2, a3, a4, a5, some (.nl (xs.map eQ)), a7, a8, a9, some (eQ y), a11, some (eQ r), a13, a14, a15], rfl, by
      have m := fun S => l_is_most (S := S) (w4 ((num_ok hf hr).ok (by decide +kernel))) (w4 hy)
      simp [runF, startP, endOf, dRet, dRetN, dIf, dIfS, dB, dBin, dUn, dV, dC, sE, asB, dSeq, dSet, dPar, dPar3, dAsg, dExpr, dAnd, dOr, dNot, bAnd, bOr, bNot, dTru, dCB, dCons, dNil, dTup, dLst, dChain, dPass, fCmpI, fIsN, gTp, gsCons, gsNil, gNm, mkTup, dSl, dPart, dNoPart, lim, iLt, iLe, iGt, iGe, m, truP], rfl⟩) (fun r hr => (h.mem r).mp hr) (by unfold lim; omega)
theorem tn_R {f : Fm} {xs : List Rat} {y : Rat} {S : Sto} {a0 a1 a2 a3 a4 a5 a7 a8 a9 a11 a12 a13 a14 a15 : Option PV} (hf : FmS f) (h : Row f xs) (hy : Ok y) (hl : xs.length ≤ 100000) :
    tnR [a0, a1, a2, a3, a4, a5, some (.nl (xs.map eQ)), a7, a8, a9, some (eQ y), a11, a12, a13, a14, a15] S = .ok (.nl ((xs.filter fun r => decide (y ≤ r)).map eQ)) S :=
  dLc_filter (α := Rat) (S := S) (di := iSeq (dV 6)) (f := cNm 12) (dt := dTru (dCB F_law_is_most_L (dCons (dV 10) (dCons (dV 12) (dNil))))) (de := dV 12) (ρ := [a0, a1, a2, a3, a4, a5, some (.nl (xs.map eQ)), a7, a8, a9, some (eQ y), a11, a12, a13, a14, a15]) (vs := [12]) eQ eQ (fun r => decide (y ≤ r)) (fun r => IsNum f r) rfl
    (fun r hr => ⟨[a0, a1, a2, a3, a4, a5, some (.nl (xs.map eQ)), a7, a8, a9, some (eQ y), a11, some (eQ r), a13, a14, a15], rfl, by
      have m := fun S => l_is_most (S := S) (w4 hy) (w4 ((num_ok hf hr).ok (by decide +kernel)))
      simp [runF, startP, endOf, dRet, dRetN, dIf, dIfS, dB, dBin, dUn, dV, dC, sE, asB, dSeq, dSet, dPar, dPar3, dAsg, dExpr, dAnd, dOr, dNot, bAnd, bOr, bNot, dTru, dCB, dCons, dNil, dTup, dLst, dChain, dPass, fCmpI, fIsN, gTp, gsCons, gsNil, gNm, mkTup, dSl, dPart, dNoPart, lim, iLt, iLe, iGt, iGe, m, truP], rfl⟩) (fun r hr => (h.mem r).mp hr) (by unfold lim; omega)
theorem tn_B {f : Fm} {xs : List Rat} {y z : Rat} {S : Sto} {a0 a1 a2 a3 a4 a5 a7 a8 a9 a11 a12 a13 a15 : Option PV} (hf : FmS f) (h : Row f xs) (hy : Ok y) (hz : Ok z) (hl : xs.length ≤ 100000) :
    tnB [a0, a1, a2, a3, a4, a5, some (.nl (xs.map eQ)), a7, a8, a9, some (eQ y), a11, a12, a13, some (eQ z), a15] S = .ok (.nl ((btw y z xs).map eQ)) S := by
  have q := dLc_filter (α := Rat) (S := S) (di := iSeq (dV 6)) (f := cNm 12) (dt := bAnd (dTru (dCB F_law_is_most_L (dCons (dV 10) (dCons (dV 12) (dNil))))) (dTru (dCB F_law_is_most_L (dCons (dV 12) (dCons (dV 14) (dNil)))))) (de := dV 12) (ρ := [a0, a1, a2, a3, a4, a5, some (.nl (xs.map eQ)), a7, a8, a9, some (eQ y), a11, a12, a13, some (eQ z), a15]) (vs := [12]) eQ eQ (fun r => decide (y ≤ r ∧ r ≤ z)) (fun r => IsNum f r) rfl
    (fun r hr => ⟨[a0, a1, a2, a3, a4, a5, some (.nl (xs.map eQ)), a7, a8, a9, some (eQ y), a11, some (eQ r), a13, some (eQ z), a15], rfl, by
      have m := fun S => l_is_most (S := S) (w4 hy) (w4 ((num_ok hf hr).ok (by decide +kernel)))
      have m2 := fun S => l_is_most (S := S) (w4 ((num_ok hf hr).ok (by decide +kernel))) (w4 hz)
      by_cases c1 : y ≤ r <;> by_cases c2 : r ≤ z <;> simp [runF, startP, endOf, dRet, dRetN, dIf, dIfS, dB, dBin, dUn, dV, dC, sE, asB, dSeq, dSet, dPar, dPar3, dAsg, dExpr, dAnd, dOr, dNot, bAnd, bOr, bNot, dTru, dCB, dCons, dNil, dTup, dLst, dChain, dPass, fCmpI, fIsN, gTp, gsCons, gsNil, gNm, mkTup, dSl, dPart, dNoPart, lim, iLt, iLe, iGt, iGe, m, m2, truP, c1, c2], rfl⟩) (fun r hr => (h.mem r).mp hr) (by unfold lim; omega)
  exact q
theorem tn_T {f : Fm} {xs : List Rat} {y : Rat} {S : Sto} {a0 a1 a2 a3 a4 a7 a8 a9 a11 a12 a13 a14 a15 : Option PV} (hf : FmS f) (h : Row f xs) (by_ : Bd (10 ^ 40) y) (hl : xs.length ≤ 100000) (l : y.abs ≤ mostR f) :
    ∃ b11 b13, tnT [a0, a1, a2, a3, a4, some (eF f), some (.nl (xs.map eQ)), a7, a8, a9, some (eQ y), a11, a12, a13, a14, a15] S = .nx [a0, a1, a2, a3, a4, some (eF f), some (.nl (xs.map eQ)), a7, a8, a9, some (eQ y), b11, a12, b13, a14, a15] S := by
  have hy : Ok y := by_.ok (by decide +kernel)
  obtain ⟨lt, nd, nu, r1, r2, gp⟩ := in_most hf.ok l
  have L1 := last_le h.so ((h.mem _).mpr nd) (dn_le y hf.ok) fun r hr q => below hf.ok lt (.inl ((h.mem r).mp hr)) q
  have F1 := first_ge h.so ((h.mem _).mpr nu) (le_up y hf.ok) fun r hr q => above hf.ok lt (.inl ((h.mem r).mp hr)) q
  have g1 := fun S => ix_last (S := S) L1
  have g2 := fun S => ix_head (S := S) F1
  have tl := fun S => tn_L (S := S) (a0 := a0) (a1 := a1) (a2 := a2) (a3 := a3) (a4 := a4) (a5 := some (eF f)) (a7 := a7) (a8 := a8) (a9 := a9) (a11 := a11) (a12 := a12) (a13 := a13) (a14 := a14) (a15 := a15) hf h hy hl
  have tr := fun S => tn_R (S := S) (a0 := a0) (a1 := a1) (a2 := a2) (a3 := a3) (a4 := a4) (a5 := some (eF f)) (a7 := a7) (a8 := a8) (a9 := a9) (a11 := some (eQ (dnR f y))) (a12 := a12) (a13 := a13) (a14 := a14) (a15 := a15) hf h hy hl
  have ud := le_up y hf.ok
  have dd1 := dn_le y hf.ok
  have bdn := num_ok hf nd
  have bup := num_ok hf nu
  generalize hdn : dnR f y = d at *
  generalize hup : upR f y = u at *
  have od : Ok d := bdn.ok (by decide +kernel)
  have ou : Ok u := bup.ok (by decide +kernel)
  have e1 := fun S => e_rounded (y := .down) (S := S) hf.ok hy
  have e2 := fun S => e_rounded (y := .up) (S := S) hf.ok hy
  rw [r1] at e1
  rw [r2] at e2
  have q1 : ∀ q S, fEq true (eQ q) (eQ q) S = .ok (.bl false) S := fun q S => by rw [eq_q]; simp
  have l1 := fun S => l_less (S := S) ou od
  have bud := Bd.sub bup bdn
  have oo : Ok (offR f .down y) := by
    have : offR f .down y = gapR f y := if_neg (by decide)
    rw [this]
    exact (gap_ok hf.ok hy).1
  have of1 := fun S => e_off_for (y := .down) (S := S) hf.ok hy oo
  have ofe : offR f .down y = gapR f y := if_neg (by decide)
  rw [ofe] at of1 oo
  have m1 := fun S => l_is_most (S := S) (w4 (bud.ok (by decide +kernel))) (w4 oo)
  have buy := Bd.sub bup by_
  have ouy : Ok (u - y) := buy.ok (by decide +kernel)
  have ho := fun S => e_hold_of (S := S) hf.ok hy r2 ouy
  have l2 := fun S => l_less (S := S) ou hy
  have ab : (u - y).abs = u - y := by rw [abs_is', if_neg]; grind
  rw [ab] at ho
  have he : eH ⟨y, y, u - y⟩ = .tup [eQ y, eQ y, eQ (u - y)] := rfl
  rw [he] at ho
  have q3 : ∀ S, fEq true (.tup [eQ y, eQ y, eQ (u - y)]) (.tup [eQ y, eQ y, eQ (u - y)]) S = .ok (.bl false) S := fun S => by rw [eq_3]; simp
  have am := fun S => e_at_most (S := S) od ou
  have le : d ≤ u := by grind
  have iT : ∀ S, fIs true (.bl true) (.bl true) S = .ok (.bl false) S := fun S => rfl
  have e1' : ∀ S, F_rounded [eF f, .str "down", eQ y] S = .ok (eQ d) S := e1
  have e2' : ∀ S, F_rounded [eF f, .str "up", eQ y] S = .ok (eQ u) S := e2
  have of1' : ∀ S, F_off_for [eF f, .str "down", eQ y] S = .ok (eQ (gapR f y)) S := of1
  have ho' : ∀ S, F_hold_of [eF f, .str "up", eQ y] S = .ok (.tup [eQ y, eQ y, eQ (u - y)]) S := ho
  refine ⟨some (eQ d), some (eQ u), ?_⟩
  have dd : tnT = dSeq (dSet 11 (dBin fIx tnL (dUn fNeg (dC (.int 1))))) (dSeq (dSet 13 (dBin fIx tnR (dC (.int 0)))) (dSeq (dIfS (bOr (dB (dBin (fEq true) (dCB F_rounded (dCons (dV 5) (dCons (dC (.str ("down" : Str))) (dCons (dV 10) (dNil))))) (dV 11))) (dB (dBin (fEq true) (dCB F_rounded (dCons (dV 5) (dCons (dC (.str ("up" : Str))) (dCons (dV 10) (dNil))))) (dV 13)))) (dRet (dC (.bl false))) (dPass)) (dSeq (dIfS (bNot (dTru (dCB F_law_is_most_L (dCons (dCB F_law_less_L (dCons (dV 13) (dCons (dV 11) (dNil)))) (dCons (dCB F_off_for (dCons (dV 5) (dCons (dC (.str ("down" : Str))) (dCons (dV 10) (dNil))))) (dNil)))))) (dRet (dC (.bl false))) (dPass)) (dSeq (dIfS (dB (dBin (fEq true) (dCB F_hold_of (dCons (dV 5) (dCons (dC (.str ("up" : Str))) (dCons (dV 10) (dNil))))) (dTup (dCons (dV 10) (dCons (dV 10) (dCons (dCB F_law_less_L (dCons (dV 13) (dCons (dV 10) (dNil)))) (dNil))))))) (dRet (dC (.bl false))) (dPass)) (dIfS (dB (dBin (fIs true) (dCB F_at_most (dCons (dV 11) (dCons (dV 13) (dNil)))) (dC (.bl true)))) (dRet (dC (.bl false))) (dPass)))))) := rfl
  have s1 : dSet 11 (dBin fIx tnL (dUn fNeg (dC (.int 1)))) [a0, a1, a2, a3, a4, some (eF f), some (.nl (xs.map eQ)), a7, a8, a9, some (eQ y), a11, a12, a13, a14, a15] S = .nx [a0, a1, a2, a3, a4, some (eF f), some (.nl (xs.map eQ)), a7, a8, a9, some (eQ y), some (eQ d), a12, a13, a14, a15] S := by
    simp only [dSet, dBin, dUn, dC, Res.bind_ok, tl, w_neg, g1, sE]
    rfl
  have s2 : dSet 13 (dBin fIx tnR (dC (.int 0))) [a0, a1, a2, a3, a4, some (eF f), some (.nl (xs.map eQ)), a7, a8, a9, some (eQ y), some (eQ d), a12, a13, a14, a15] S = .nx [a0, a1, a2, a3, a4, some (eF f), some (.nl (xs.map eQ)), a7, a8, a9, some (eQ y), some (eQ d), a12, some (eQ u), a14, a15] S := by
    simp only [dSet, dBin, dC, Res.bind_ok, tr, g2, sE]
    rfl
  rw [dd]
  simp only [dSeq, s1, s2]
  generalize xs.map eQ = XL at *
  simp [runF, startP, endOf, dRet, dRetN, dIf, dIfS, dB, dBin, dUn, dV, dC, sE, asB, dSeq, dSet, dPar, dPar3, dAsg, dExpr, dAnd, dOr, dNot, bAnd, bOr, bNot, dTru, dCB, dCons, dNil, dTup, dLst, dChain, dPass, fCmpI, fIsN, gTp, gsCons, gsNil, gNm, mkTup, dSl, dPart, dNoPart, lim, iLt, iLe, iGt, iGe, e1', e2', q1, l1, of1', m1, gp, ho', l2, q3, am, le, iT, truP]
end G04
end
section
set_option Elab.async false
set_option linter.all false
set_option maxRecDepth 100000
set_option maxHeartbeats 1000000
set_option exponentiation.threshold 5000
namespace G04
open PySem PySem.Spec PyProof.Rows L2 Mi Ra
def tn : EnP → Sto → SR := (dSeq (dSet 9 (dCB F_law_draw_L (dCons (dV 1) (dCons (dCB fLen (dCons (dV 6) (dNil))) (dNil))))) (dSeq (dSet 7 (dBin fIx (dV 6) (dV 9))) (dSeq (dIfS (dB (dBin (fEq true) (dCB F_next_up (dCons (dV 5) (dCons (dV 7) (dNil)))) (dIf (dB (dBin (fCmpI iLt) (dBin (fAdd false) (dV 9) (dC (.int 1))) (dCB fLen (dCons (dV 6) (dNil))))) (dBin fIx (dV 6) (dBin (fAdd false) (dV 9) (dC (.int 1)))) (dC .non)))) (dRet (dC (.bl false))) (dPass)) (dSeq (dIfS (dB (dBin (fEq true) (dCB F_next_down (dCons (dV 5) (dCons (dV 7) (dNil)))) (dIf (dB (dBin (fCmpI iGt) (dV 9) (dC (.int 0)))) (dBin fIx (dV 6) (dBin fSub (dV 9) (dC (.int 1)))) (dC .non)))) (dRet (dC (.bl false))) (dPass)) (dSeq (dSet 10 (dCB F_law_low_L (dCons (dBin fSub (dCB F_law_draw_L (dCons (dV 1) (dCons (dC (.int 41)) (dNil)))) (dC (.int 20))) (dCons (dBin (fAdd false) (dC (.int 1)) (dCB F_law_draw_L (dCons (dV 1) (dCons (dC (.int 9)) (dNil))))) (dNil))))) (dSeq (dSet 10 (dCB F_law_any_L (dCons (dV 1) (dCons (dLst false (dCons (dV 10) (dCons (dV 7) (dCons (dCB F_law_plus_L (dCons (dV 7) (dCons (dCB F_law_low_L (dCons (dC (.int 1)) (dCons (dBin (fMul false) (dC (.int 24)) (dBin fIx (dBin fIx (dV 6) (dUn fNeg (dC (.int 1)))) (dC (.int 1)))) (dNil)))) (dNil)))) (dNil))))) (dNil))))) (dSeq (dIfS (bOr (dB (dBin (fEq true) (dCB F_is_number_of (dCons (dV 5) (dCons (dV 10) (dNil)))) (dBin (fInD false) (dV 10) (dV 6)))) (dB (dBin (fEq true) (dCB F_gap_at (dCons (dV 5) (dCons (dV 10) (dNil)))) (dCB F_law_gap_L (dCons (dV 5) (dCons (dV 10) (dNil))))))) (dRet (dC (.bl false))) (dPass)) (dSeq (dIfS (dTru (dCB F_law_is_most_L (dCons (dCB F_law_size_L (dCons (dV 10) (dNil))) (dCons (dBin fIx (dV 6) (dUn fNeg (dC (.int 1)))) (dNil))))) (dSeq (dSet 11 (dBin fIx (dLc false (iSeq (dV 6)) (cNm 12) (dTru (dCB F_law_is_most_L (dCons (dV 12) (dCons (dV 10) (dNil))))) (dV 12) [12]) (dUn fNeg (dC (.int 1))))) (dSeq (dSet 13 (dBin fIx (dLc false (iSeq (dV 6)) (cNm 12) (dTru (dCB F_law_is_most_L (dCons (dV 10) (dCons (dV 12) (dNil))))) (dV 12) [12]) (dC (.int 0)))) (dSeq (dIfS (bOr (dB (dBin (fEq true) (dCB F_rounded (dCons (dV 5) (dCons (dC (.str ("down" : Str))) (dCons (dV 10) (dNil))))) (dV 11))) (dB (dBin (fEq true) (dCB F_rounded (dCons (dV 5) (dCons (dC (.str ("up" : Str))) (dCons (dV 10) (dNil))))) (dV 13)))) (dRet (dC (.bl false))) (dPass)) (dSeq (dIfS (bNot (dTru (dCB F_law_is_most_L (dCons (dCB F_law_less_L (dCons (dV 13) (dCons (dV 11) (dNil)))) (dCons (dCB F_off_for (dCons (dV 5) (dCons (dC (.str ("down" : Str))) (dCons (dV 10) (dNil))))) (dNil)))))) (dRet (dC (.bl false))) (dPass)) (dSeq (dIfS (dB (dBin (fEq true) (dCB F_hold_of (dCons (dV 5) (dCons (dC (.str ("up" : Str))) (dCons (dV 10) (dNil))))) (dTup (dCons (dV 10) (dCons (dV 10) (dCons (dCB F_law_less_L (dCons (dV 13) (dCons (dV 10) (dNil)))) (dNil))))))) (dRet (dC (.bl false))) (dPass)) (dIfS (dB (dBin (fIs true) (dCB F_at_most (dCons (dV 11) (dCons (dV 13) (dNil)))) (dC (.bl true)))) (dRet (dC (.bl false))) (dPass))))))) (dPass)) (dSeq (dSet 14 (dCB F_law_plus_L (dCons (dV 10) (dCons (dTup (dCons (dCB F_law_draw_L (dCons (dV 1) (dCons (dC (.int 5)) (dNil)))) (dCons (dC (.int 2)) (dNil)))) (dNil))))) (dSeq (dSet 15 (dLc false (iSeq (dV 6)) (cNm 12) (bAnd (dTru (dCB F_law_is_most_L (dCons (dV 10) (dCons (dV 12) (dNil))))) (dTru (dCB F_law_is_most_L (dCons (dV 12) (dCons (dV 14) (dNil)))))) (dV 12) [12])) (dIfS (dB (dBin (fEq true) (dCB F_numbers_from (dCons (dV 5) (dCons (dV 10) (dCons (dV 14) (dNil))))) (dCB fTuple (dCons (dV 15) (dNil))))) (dRet (dC (.bl false))) (dPass))))))))))))
def tn0 : EnP → Sto → SR := (dSet 9 (dCB F_law_draw_L (dCons (dV 1) (dCons (dCB fLen (dCons (dV 6) (dNil))) (dNil)))))
def tn1 : EnP → Sto → SR := (dSet 7 (dBin fIx (dV 6) (dV 9)))
def tn2 : EnP → Sto → SR := (dIfS (dB (dBin (fEq true) (dCB F_next_up (dCons (dV 5) (dCons (dV 7) (dNil)))) (dIf (dB (dBin (fCmpI iLt) (dBin (fAdd false) (dV 9) (dC (.int 1))) (dCB fLen (dCons (dV 6) (dNil))))) (dBin fIx (dV 6) (dBin (fAdd false) (dV 9) (dC (.int 1)))) (dC .non)))) (dRet (dC (.bl false))) (dPass))
def tn3 : EnP → Sto → SR := (dIfS (dB (dBin (fEq true) (dCB F_next_down (dCons (dV 5) (dCons (dV 7) (dNil)))) (dIf (dB (dBin (fCmpI iGt) (dV 9) (dC (.int 0)))) (dBin fIx (dV 6) (dBin fSub (dV 9) (dC (.int 1)))) (dC .non)))) (dRet (dC (.bl false))) (dPass))
def tn4 : EnP → Sto → SR := (dSet 10 (dCB F_law_low_L (dCons (dBin fSub (dCB F_law_draw_L (dCons (dV 1) (dCons (dC (.int 41)) (dNil)))) (dC (.int 20))) (dCons (dBin (fAdd false) (dC (.int 1)) (dCB F_law_draw_L (dCons (dV 1) (dCons (dC (.int 9)) (dNil))))) (dNil)))))
def tn5 : EnP → Sto → SR := (dSet 10 (dCB F_law_any_L (dCons (dV 1) (dCons (dLst false (dCons (dV 10) (dCons (dV 7) (dCons (dCB F_law_plus_L (dCons (dV 7) (dCons (dCB F_law_low_L (dCons (dC (.int 1)) (dCons (dBin (fMul false) (dC (.int 24)) (dBin fIx (dBin fIx (dV 6) (dUn fNeg (dC (.int 1)))) (dC (.int 1)))) (dNil)))) (dNil)))) (dNil))))) (dNil)))))
def tn6 : EnP → Sto → SR := (dIfS (bOr (dB (dBin (fEq true) (dCB F_is_number_of (dCons (dV 5) (dCons (dV 10) (dNil)))) (dBin (fInD false) (dV 10) (dV 6)))) (dB (dBin (fEq true) (dCB F_gap_at (dCons (dV 5) (dCons (dV 10) (dNil)))) (dCB F_law_gap_L (dCons (dV 5) (dCons (dV 10) (dNil))))))) (dRet (dC (.bl false))) (dPass))
def tn7 : EnP → Sto → SR := (dIfS (dTru (dCB F_law_is_most_L (dCons (dCB F_law_size_L (dCons (dV 10) (dNil))) (dCons (dBin fIx (dV 6) (dUn fNeg (dC (.int 1)))) (dNil))))) (dSeq (dSet 11 (dBin fIx (dLc false (iSeq (dV 6)) (cNm 12) (dTru (dCB F_law_is_most_L (dCons (dV 12) (dCons (dV 10) (dNil))))) (dV 12) [12]) (dUn fNeg (dC (.int 1))))) (dSeq (dSet 13 (dBin fIx (dLc false (iSeq (dV 6)) (cNm 12) (dTru (dCB F_law_is_most_L (dCons (dV 10) (dCons (dV 12) (dNil))))) (dV 12) [12]) (dC (.int 0)))) (dSeq (dIfS (bOr (dB (dBin (fEq true) (dCB F_rounded (dCons (dV 5) (dCons (dC (.str ("down" : Str))) (dCons (dV 10) (dNil))))) (dV 11))) (dB (dBin (fEq true) (dCB F_rounded (dCons (dV 5) (dCons (dC (.str ("up" : Str))) (dCons (dV 10) (dNil))))) (dV 13)))) (dRet (dC (.bl false))) (dPass)) (dSeq (dIfS (bNot (dTru (dCB F_law_is_most_L (dCons (dCB F_law_less_L (dCons (dV 13) (dCons (dV 11) (dNil)))) (dCons (dCB F_off_for (dCons (dV 5) (dCons (dC (.str ("down" : Str))) (dCons (dV 10) (dNil))))) (dNil)))))) (dRet (dC (.bl false))) (dPass)) (dSeq (dIfS (dB (dBin (fEq true) (dCB F_hold_of (dCons (dV 5) (dCons (dC (.str ("up" : Str))) (dCons (dV 10) (dNil))))) (dTup (dCons (dV 10) (dCons (dV 10) (dCons (dCB F_law_less_L (dCons (dV 13) (dCons (dV 10) (dNil)))) (dNil))))))) (dRet (dC (.bl false))) (dPass)) (dIfS (dB (dBin (fIs true) (dCB F_at_most (dCons (dV 11) (dCons (dV 13) (dNil)))) (dC (.bl true)))) (dRet (dC (.bl false))) (dPass))))))) (dPass))
def tn8 : EnP → Sto → SR := (dSet 14 (dCB F_law_plus_L (dCons (dV 10) (dCons (dTup (dCons (dCB F_law_draw_L (dCons (dV 1) (dCons (dC (.int 5)) (dNil)))) (dCons (dC (.int 2)) (dNil)))) (dNil)))))
def tn10 : EnP → Sto → SR := (dIfS (dB (dBin (fEq true) (dCB F_numbers_from (dCons (dV 5) (dCons (dV 10) (dCons (dV 14) (dNil))))) (dCB fTuple (dCons (dV 15) (dNil))))) (dRet (dC (.bl false))) (dPass))
theorem tn_is : tn = dSeq tn0 (dSeq tn1 (dSeq tn2 (dSeq tn3 (dSeq tn4 (dSeq tn5 (dSeq tn6 (dSeq tn7 (dSeq tn8 (dSeq (dSet 15 tnB) tn10))))))))) := rfl
theorem up_val {xs : List Rat} {i : Nat} (hi : i < xs.length) (S : Sto) : (if (i : Int) + 1 < (xs.length : Int) then fIx (.nl (xs.map eQ)) (.int ((i : Int) + 1)) S else Res.ok .non S) = .ok (eO (xs[i + 1]?)) S := by
  by_cases c : (i : Int) + 1 < (xs.length : Int)
  · rw [if_pos c]
    have i1 : i + 1 < xs.length := by omega
    have z : ((i : Int) + 1).toNat = i + 1 := by omega
    rw [ix_at (d := xs[i + 1]) (by omega) (by rw [z]; exact List.getElem?_eq_getElem i1), List.getElem?_eq_getElem i1]
    rfl
  · rw [if_neg c, List.getElem?_eq_none (by omega)]
    rfl
theorem dn_val {xs : List Rat} {i : Nat} (hi : i < xs.length) (S : Sto) : (if 0 < (i : Int) then fIx (.nl (xs.map eQ)) (.int ((i : Int) - 1)) S else Res.ok .non S) = .ok (eO (if 0 < i then xs[i - 1]? else none)) S := by
  by_cases c : 0 < (i : Int)
  · rw [if_pos c, if_pos (by omega)]
    have i1 : i - 1 < xs.length := by omega
    have z : ((i : Int) - 1).toNat = i - 1 := by omega
    rw [ix_at (d := xs[i - 1]) (by omega) (by rw [z]; exact List.getElem?_eq_getElem i1), List.getElem?_eq_getElem i1]
    rfl
  · rw [if_neg c, if_neg (by omega)]
    rfl
theorem l_plus2 {x : Rat} {d : Int} {S : Sto} (hx : Ok x) (d0 : 0 ≤ d) (d1 : d ≤ 10) : F_law_plus_L [eQ x, .tup [.int d, .int 2]] S = .ok (eQ (x + Rat.divInt d 2)) S := by
  have sd : (x.den : Int).natAbs ≤ 10 ^ 300 := d6 hx
  have m1 := fun S => mul_sm (S := S) (i := x.num) (j := 2) (sm_n hx) (by decide +kernel)
  have m2 := fun S => mul_sm (S := S) (i := d) (j := (x.den : Int)) (Nat.le_trans (show d.natAbs ≤ 10 by omega) (by decide +kernel)) (sm_d hx)
  have m3 := fun S => mul_sm (S := S) (i := (x.den : Int)) (j := 2) (sm_d hx) (by decide +kernel)
  have sa : (x.num * 2 + d * (x.den : Int)).natAbs ≤ 2 ^ 4000 := Nat.le_trans (Int.natAbs_add_le _ _) (Nat.le_trans (Nat.add_le_add (mul_abs (n6 hx) (show (2 : Int).natAbs ≤ 2 by decide)) (mul_abs (show d.natAbs ≤ 10 by omega) sd)) (by decide +kernel))
  have lo := fun S => l_low (a := x.num * 2 + d * (x.den : Int)) (b := (x.den : Int) * 2) (S := S) (by have := den_p x; omega) sa (Nat.le_trans (mul_abs sd (show (2 : Int).natAbs ≤ 2 by decide)) (by decide +kernel))
  have e : Rat.divInt (x.num * 2 + d * (x.den : Int)) ((x.den : Int) * 2) = x + Rat.divInt d 2 := by
    rw [← Rat.divInt_add_divInt _ _ (den0 x) (by decide), self]
  rw [e] at lo
  simp [F_law_plus_L, d_law_plus_L, runF, startP, endOf, dRet, dRetN, dIf, dIfS, dB, dBin, dUn, dV, dC, sE, asB, dSeq, dSet, dPar, dPar3, dAsg, dExpr, dAnd, dOr, dNot, bAnd, bOr, bNot, dTru, dCB, dCons, dNil, dTup, dLst, dChain, dPass, fCmpI, fIsN, gTp, gsCons, gsNil, gNm, mkTup, dSl, dPart, dNoPart, lim, iLt, iLe, iGt, iGe, ix_q0, ix_q1, ix_t0, ix_t1, m1, m2, m3, w_add, lo]
theorem tn_step {f : Fm} {b : Int} {xs : List Rat} {S : Sto} {a0 a2 a3 a4 a7 a8 a9 a10 a11 a12 a13 a14 a15 : Option PV} (hk : Hk b S) (hb : b ≤ 980000000) (hf : FmS f) (h : Row f xs) (hl : xs.length ≤ 500) :
    ∃ S' b7 b9 b10 b11 b13 b14 b15, tn [a0, some (.ref 0), a2, a3, a4, some (eF f), some (.nl (xs.map eQ)), a7, a8, a9, a10, a11, a12, a13, a14, a15] S = .nx [a0, some (.ref 0), a2, a3, a4, some (eF f), some (.nl (xs.map eQ)), b7, a8, b9, b10, b11, a12, b13, b14, b15] S' ∧ Hk (b + 5) S' := by
  have l2 := row_len hf.ok h
  obtain ⟨i_, S1, e1, i0, i1, k1⟩ := e_draw (k := (xs.length : Int)) hk (by omega) (by omega) (by omega)
  obtain ⟨i, rfl⟩ : ∃ i : Nat, i_ = (i : Int) := ⟨i_.toNat, by omega⟩
  have hi : i < xs.length := by omega
  have ex : xs[i]? = some xs[i] := List.getElem?_eq_getElem hi
  have hx := (h.mem _).mp (List.getElem_mem hi)
  have uv := fun S => up_val hi S
  have dv := fun S => dn_val hi S
  have eu := fun S => e_up (S := S) hf h ex
  have ed := fun S => e_down (S := S) hf h ex
  have gx := fun S => ix_at (i := (i : Int)) (S := S) (by omega) (show xs[((i : Int)).toNat]? = some xs[i] by rw [Int.toNat_natCast]; exact ex)
  generalize xs[i] = x at *
  generalize xs[i + 1]? = u at *
  generalize (if 0 < i then xs[i - 1]? else none) = d at *
  have bx := num_ok hf hx
  have ox : Ok x := bx.ok (by decide +kernel)
  obtain ⟨d1, S2, e2, c0, c1, k2⟩ := e_draw (k := 41) k1 (by omega) (by omega) (by omega)
  obtain ⟨d2, S3, e3, f0, f1, k3⟩ := e_draw (k := 9) k2 (by omega) (by omega) (by omega)
  have lo := fun S => l_low (a := d1 - 20) (b := 1 + d2) (S := S) (by omega) (Nat.le_trans (show _ ≤ 100 by omega) (by decide +kernel)) (Nat.le_trans (show _ ≤ 100 by omega) (by decide +kernel))
  have by0 : Bd 100 (Rat.divInt (d1 - 20) (1 + d2)) := bd_div (by omega) (by omega) (by omega)
  generalize Rat.divInt (d1 - 20) (1 + d2) = y0 at *
  have bm := num_ok hf (most_num hf.ok)
  have gm := fun S => ix_last (S := S) (h.last hf.ok)
  have mp := most_pos hf.ok
  have mden : ((mostR f).den : Int).natAbs ≤ 1000 * 10 ^ 10 := bm.dn
  have m24 := fun S => mul_sm (S := S) (i := 24) (j := ((mostR f).den : Int)) (by decide +kernel) (Nat.le_trans mden (by decide +kernel))
  have dpos := den_p (mostR f)
  have lo2 := fun S => l_low (a := 1) (b := 24 * ((mostR f).den : Int)) (S := S) (by omega) (by decide +kernel) (Nat.le_trans (show _ ≤ 24 * (1000 * 10 ^ 10) by omega) (by decide +kernel))
  have bq : Bd (10 ^ 16) (Rat.divInt 1 (24 * ((mostR f).den : Int))) := bd_div (by omega) (by decide) (by omega)
  have qle : (Rat.divInt 1 (24 * ((mostR f).den : Int))).abs ≤ 1 := by
    have a := abs_num_le (Rat.divInt 1 (24 * ((mostR f).den : Int)))
    have n : (Rat.divInt 1 (24 * ((mostR f).den : Int))).num.natAbs ≤ 1 := by
      rw [num_div (by omega)]
      exact fdiv_abs
    have := nat_le.mpr n
    have o : ((1 : Nat) : Rat) = 1 := rfl
    grind
  generalize Rat.divInt 1 (24 * ((mostR f).den : Int)) = q at *
  have pl := fun S => l_plus (S := S) ox (bq.ok (by decide +kernel))
  have bxq := Bd.add bx bq
  obtain ⟨v, hv, S4, e4, k4⟩ := e_any (xs := [eQ y0, eQ x, eQ (x + q)]) k3 (by omega) (by simp) (by simp)
  have ax : x.abs ≤ ((10 ^ 14 : Nat) : Rat) := Rat.le_trans (abs_num_le x) (nat_le.mpr (Nat.le_trans bx.n (by decide)))
  have hy : ∃ y : Rat, v = eQ y ∧ Bd (10 ^ 40) y ∧ y.abs ≤ ((10 ^ 15 : Nat) : Rat) := by
    simp at hv
    rcases hv with rfl | rfl | rfl
    · exact ⟨y0, rfl, by0.mono (by decide), Rat.le_trans (abs_num_le y0) (nat_le.mpr (Nat.le_trans by0.n (by decide)))⟩
    · exact ⟨x, rfl, bx.mono (by decide), Rat.le_trans ax (nat_le.mpr (by decide))⟩
    · refine ⟨x + q, rfl, bxq.mono (by decide), ?_⟩
      have s := abs_add x q
      have n : ((10 ^ 14 : Nat) : Rat) + 1 ≤ ((10 ^ 15 : Nat) : Rat) := by decide +kernel
      grind
  obtain ⟨y, rfl, by_, ya⟩ := hy
  have oy : Ok y := by_.ok (by decide +kernel)
  have nm := fun S => e_is_numR (S := S) hf.ok oy h
  have inr := fun S => in_row y xs S
  have ga := fun S => e_gap_at (S := S) hf.ok oy
  have lg := fun S => l_gap80 (S := S) hf.ok oy (ex_80 hf ya)
  have qs : ∀ q S, fEq true (eQ q) (eQ q) S = .ok (.bl false) S := fun q S => by rw [eq_q]; simp
  have qb : ∀ b S, fEq true (.bl b) (.bl b) S = .ok (.bl false) S := fun b S => by rw [eq_bl]; simp
  have qo : ∀ a S, fEq true (eO a) (eO a) S = .ok (.bl false) S := fun a S => by rw [eq_o]; simp
  obtain ⟨d3, S5, e5, h0, h1, k5⟩ := e_draw (k := 5) k4 (by omega) (by omega) (by omega)
  have p2 := fun S => l_plus2 (S := S) oy h0 (by omega)
  have b2 : Bd 10 (Rat.divInt d3 2) := bd_div (by decide) (by omega) (by decide)
  have nn2 : 0 ≤ Rat.divInt d3 2 := (div_sgn (by decide)).mpr h0
  have bz := Bd.add by_ b2
  generalize Rat.divInt d3 2 = w at *
  have oz : Ok (y + w) := bz.ok (by decide +kernel)
  have yz : y ≤ y + w := by grind
  generalize y + w = z at *
  have cnt : (btw y z xs).length ≤ 500 := Nat.le_trans (List.length_filter_le _ _) hl
  obtain ⟨l6, n6⟩ := e_from hf h oy oz yz cnt S5
  have tb := fun S a11 a13 => tn_B (S := S) (a0 := a0) (a1 := some (.ref 0)) (a2 := a2) (a3 := a3) (a4 := a4) (a5 := some (eF f)) (a7 := some (eQ x)) (a8 := a8) (a9 := some (.int i)) (a11 := a11) (a12 := a12) (a13 := a13) (a15 := a15) hf h oy oz (by omega)
  have tt := fun S => tup_nl (L := (btw y z xs).map eQ) (S := S) (by rw [List.length_map]; unfold lim; omega)
  have qt := fun S => eq_tupl true (btw y z xs) S
  have len := fun S => len_row xs S
  have T7 : ∃ b11 b13, tn7 [a0, some (.ref 0), a2, a3, a4, some (eF f), some (.nl (xs.map eQ)), some (eQ x), a8, some (.int i), some (eQ y), a11, a12, a13, a14, a15] S4 = .nx [a0, some (.ref 0), a2, a3, a4, some (eF f), some (.nl (xs.map eQ)), some (eQ x), a8, some (.int i), some (eQ y), b11, a12, b13, a14, a15] S4 := by
    have im := fun S => l_is_most (S := S) (w4 oy.abs) (w4 (bm.ok (by decide +kernel)))
    have sy := fun S => l_size (x := y) (S := S)
    have d7 : tn7 = dIfS tnP tnT (dPass) := rfl
    have cP : tnP [a0, some (.ref 0), a2, a3, a4, some (eF f), some (.nl (xs.map eQ)), some (eQ x), a8, some (.int i), some (eQ y), a11, a12, a13, a14, a15] S4 = .ok (decide (y.abs ≤ mostR f)) S4 := by
      generalize xs.map eQ = XL at *
      simp [tnP, runF, startP, endOf, dRet, dRetN, dIf, dIfS, dB, dBin, dUn, dV, dC, sE, asB, dSeq, dSet, dPar, dPar3, dAsg, dExpr, dAnd, dOr, dNot, bAnd, bOr, bNot, dTru, dCB, dCons, dNil, dTup, dLst, dChain, dPass, fCmpI, fIsN, gTp, gsCons, gsNil, gNm, mkTup, dSl, dPart, dNoPart, lim, iLt, iLe, iGt, iGe, sy, w_neg, gm, im, truP]
    by_cases c : y.abs ≤ mostR f
    · obtain ⟨b11, b13, ht⟩ := tn_T (S := S4) (a0 := a0) (a1 := some (.ref 0)) (a2 := a2) (a3 := a3) (a4 := a4) (a7 := some (eQ x)) (a8 := a8) (a9 := some (.int i)) (a11 := a11) (a12 := a12) (a13 := a13) (a14 := a14) (a15 := a15) hf h by_ (by omega) c
      refine ⟨b11, b13, ?_⟩
      rw [d7]
      simp only [dIfS, cP, sE, c, decide_true, if_true, ht]
    · refine ⟨a11, a13, ?_⟩
      rw [d7]
      simp [dIfS, cP, sE, c, dPass]
  obtain ⟨b11, b13, t7⟩ := T7
  refine ⟨S5 ++ l6, some (eQ x), some (.int i), some (eQ y), b11, b13, some (eQ z), some (.nl ((btw y z xs).map eQ)), ?_, (k5.more l6).mono (by omega)⟩
  have tb' := fun S => tb S b11 b13
  generalize (btw y z xs).map eQ = BL at *
  have q0 : tn0 [a0, some (.ref 0), a2, a3, a4, some (eF f), some (.nl (xs.map eQ)), a7, a8, a9, a10, a11, a12, a13, a14, a15] S = .nx [a0, some (.ref 0), a2, a3, a4, some (eF f), some (.nl (xs.map eQ)), a7, a8, some (.int i), a10, a11, a12, a13, a14, a15] S1 := by
    generalize xs.map eQ = XL at *
    simp [tn0, runF, startP, endOf, dRet, dRetN, dIf, dIfS, dB, dBin, dUn, dV, dC, sE, asB, dSeq, dSet, dPar, dPar3, dAsg, dExpr, dAnd, dOr, dNot, bAnd, bOr, bNot, dTru, dCB, dCons, dNil, dTup, dLst, dChain, dPass, fCmpI, fIsN, gTp, gsCons, gsNil, gNm, mkTup, dSl, dPart, dNoPart, lim, iLt, iLe, iGt, iGe, len, e1]
  have q1 : tn1 [a0, some (.ref 0), a2, a3, a4, some (eF f), some (.nl (xs.map eQ)), a7, a8, some (.int i), a10, a11, a12, a13, a14, a15] S1 = .nx [a0, some (.ref 0), a2, a3, a4, some (eF f), some (.nl (xs.map eQ)), some (eQ x), a8, some (.int i), a10, a11, a12, a13, a14, a15] S1 := by
    generalize xs.map eQ = XL at *
    simp [tn1, runF, startP, endOf, dRet, dRetN, dIf, dIfS, dB, dBin, dUn, dV, dC, sE, asB, dSeq, dSet, dPar, dPar3, dAsg, dExpr, dAnd, dOr, dNot, bAnd, bOr, bNot, dTru, dCB, dCons, dNil, dTup, dLst, dChain, dPass, fCmpI, fIsN, gTp, gsCons, gsNil, gNm, mkTup, dSl, dPart, dNoPart, lim, iLt, iLe, iGt, iGe, gx]
  have q2 : tn2 [a0, some (.ref 0), a2, a3, a4, some (eF f), some (.nl (xs.map eQ)), some (eQ x), a8, some (.int i), a10, a11, a12, a13, a14, a15] S1 = .nx [a0, some (.ref 0), a2, a3, a4, some (eF f), some (.nl (xs.map eQ)), some (eQ x), a8, some (.int i), a10, a11, a12, a13, a14, a15] S1 := by
    generalize xs.map eQ = XL at *
    by_cases c : (i : Int) + 1 < (xs.length : Int)
    · have u1 := fun S => uv S
      simp only [if_pos c] at u1
      simp [tn2, runF, startP, endOf, dRet, dRetN, dIf, dIfS, dB, dBin, dUn, dV, dC, sE, asB, dSeq, dSet, dPar, dPar3, dAsg, dExpr, dAnd, dOr, dNot, bAnd, bOr, bNot, dTru, dCB, dCons, dNil, dTup, dLst, dChain, dPass, fCmpI, fIsN, gTp, gsCons, gsNil, gNm, mkTup, dSl, dPart, dNoPart, lim, iLt, iLe, iGt, iGe, eu, w_add, len, c, u1, qo]
    · have u1 := fun S => uv S
      simp only [if_neg c] at u1
      have u2 : eO u = .non := by have := u1 []; injection this with h _; exact h.symm
      rw [u2] at eu
      have qn : ∀ S, fEq true .non .non S = .ok (.bl false) S := fun S => by kernel_rfl
      simp [tn2, runF, startP, endOf, dRet, dRetN, dIf, dIfS, dB, dBin, dUn, dV, dC, sE, asB, dSeq, dSet, dPar, dPar3, dAsg, dExpr, dAnd, dOr, dNot, bAnd, bOr, bNot, dTru, dCB, dCons, dNil, dTup, dLst, dChain, dPass, fCmpI, fIsN, gTp, gsCons, gsNil, gNm, mkTup, dSl, dPart, dNoPart, lim, iLt, iLe, iGt, iGe, eu, w_add, len, c, qn]
  have q3 : tn3 [a0, some (.ref 0), a2, a3, a4, some (eF f), some (.nl (xs.map eQ)), some (eQ x), a8, some (.int i), a10, a11, a12, a13, a14, a15] S1 = .nx [a0, some (.ref 0), a2, a3, a4, some (eF f), some (.nl (xs.map eQ)), some (eQ x), a8, some (.int i), a10, a11, a12, a13, a14, a15] S1 := by
    generalize xs.map eQ = XL at *
    by_cases c : 0 < (i : Int)
    · have u1 := fun S => dv S
      simp only [if_pos c] at u1
      have c' : 0 < i := by omega
      simp [tn3, runF, startP, endOf, dRet, dRetN, dIf, dIfS, dB, dBin, dUn, dV, dC, sE, asB, dSeq, dSet, dPar, dPar3, dAsg, dExpr, dAnd, dOr, dNot, bAnd, bOr, bNot, dTru, dCB, dCons, dNil, dTup, dLst, dChain, dPass, fCmpI, fIsN, gTp, gsCons, gsNil, gNm, mkTup, dSl, dPart, dNoPart, lim, iLt, iLe, iGt, iGe, ed, w_sub, c', u1, qo]
    · have u1 := fun S => dv S
      simp only [if_neg c] at u1
      have u2 : eO d = .non := by have := u1 []; injection this with h _; exact h.symm
      rw [u2] at ed
      have qn : ∀ S, fEq true .non .non S = .ok (.bl false) S := fun S => by kernel_rfl
      have c' : ¬ 0 < i := by omega
      simp [tn3, runF, startP, endOf, dRet, dRetN, dIf, dIfS, dB, dBin, dUn, dV, dC, sE, asB, dSeq, dSet, dPar, dPar3, dAsg, dExpr, dAnd, dOr, dNot, bAnd, bOr, bNot, dTru, dCB, dCons, dNil, dTup, dLst, dChain, dPass, fCmpI, fIsN, gTp, gsCons, gsNil, gNm, mkTup, dSl, dPart, dNoPart, lim, iLt, iLe, iGt, iGe, ed, w_sub, c', qn]
  have q4 : tn4 [a0, some (.ref 0), a2, a3, a4, some (eF f), some (.nl (xs.map eQ)), some (eQ x), a8, some (.int i), a10, a11, a12, a13, a14, a15] S1 = .nx [a0, some (.ref 0), a2, a3, a4, some (eF f), some (.nl (xs.map eQ)), some (eQ x), a8, some (.int i), some (eQ y0), a11, a12, a13, a14, a15] S3 := by
    simp [tn4, runF, startP, endOf, dRet, dRetN, dIf, dIfS, dB, dBin, dUn, dV, dC, sE, asB, dSeq, dSet, dPar, dPar3, dAsg, dExpr, dAnd, dOr, dNot, bAnd, bOr, bNot, dTru, dCB, dCons, dNil, dTup, dLst, dChain, dPass, fCmpI, fIsN, gTp, gsCons, gsNil, gNm, mkTup, dSl, dPart, dNoPart, lim, iLt, iLe, iGt, iGe, e2, e3, w_sub, w_add, lo]
  have q5 : tn5 [a0, some (.ref 0), a2, a3, a4, some (eF f), some (.nl (xs.map eQ)), some (eQ x), a8, some (.int i), some (eQ y0), a11, a12, a13, a14, a15] S3 = .nx [a0, some (.ref 0), a2, a3, a4, some (eF f), some (.nl (xs.map eQ)), some (eQ x), a8, some (.int i), some (eQ y), a11, a12, a13, a14, a15] S4 := by
    generalize xs.map eQ = XL at *
    simp [tn5, runF, startP, endOf, dRet, dRetN, dIf, dIfS, dB, dBin, dUn, dV, dC, sE, asB, dSeq, dSet, dPar, dPar3, dAsg, dExpr, dAnd, dOr, dNot, bAnd, bOr, bNot, dTru, dCB, dCons, dNil, dTup, dLst, dChain, dPass, fCmpI, fIsN, gTp, gsCons, gsNil, gNm, mkTup, dSl, dPart, dNoPart, lim, iLt, iLe, iGt, iGe, mkLst, w_neg, gm, ix_q1, m24, lo2, pl, e4]
  have q6 : tn6 [a0, some (.ref 0), a2, a3, a4, some (eF f), some (.nl (xs.map eQ)), some (eQ x), a8, some (.int i), some (eQ y), a11, a12, a13, a14, a15] S4 = .nx [a0, some (.ref 0), a2, a3, a4, some (eF f), some (.nl (xs.map eQ)), some (eQ x), a8, some (.int i), some (eQ y), a11, a12, a13, a14, a15] S4 := by
    generalize xs.map eQ = XL at *
    generalize decide (y ∈ xs) = B at *
    simp [tn6, runF, startP, endOf, dRet, dRetN, dIf, dIfS, dB, dBin, dUn, dV, dC, sE, asB, dSeq, dSet, dPar, dPar3, dAsg, dExpr, dAnd, dOr, dNot, bAnd, bOr, bNot, dTru, dCB, dCons, dNil, dTup, dLst, dChain, dPass, fCmpI, fIsN, gTp, gsCons, gsNil, gNm, mkTup, dSl, dPart, dNoPart, lim, iLt, iLe, iGt, iGe, nm, inr, qb, ga, lg, qs]
  have q8 : tn8 [a0, some (.ref 0), a2, a3, a4, some (eF f), some (.nl (xs.map eQ)), some (eQ x), a8, some (.int i), some (eQ y), b11, a12, b13, a14, a15] S4 = .nx [a0, some (.ref 0), a2, a3, a4, some (eF f), some (.nl (xs.map eQ)), some (eQ x), a8, some (.int i), some (eQ y), b11, a12, b13, some (eQ z), a15] S5 := by
    simp [tn8, runF, startP, endOf, dRet, dRetN, dIf, dIfS, dB, dBin, dUn, dV, dC, sE, asB, dSeq, dSet, dPar, dPar3, dAsg, dExpr, dAnd, dOr, dNot, bAnd, bOr, bNot, dTru, dCB, dCons, dNil, dTup, dLst, dChain, dPass, fCmpI, fIsN, gTp, gsCons, gsNil, gNm, mkTup, dSl, dPart, dNoPart, lim, iLt, iLe, iGt, iGe, e5, p2]
  have q9 : dSet 15 tnB [a0, some (.ref 0), a2, a3, a4, some (eF f), some (.nl (xs.map eQ)), some (eQ x), a8, some (.int i), some (eQ y), b11, a12, b13, some (eQ z), a15] S5 = .nx [a0, some (.ref 0), a2, a3, a4, some (eF f), some (.nl (xs.map eQ)), some (eQ x), a8, some (.int i), some (eQ y), b11, a12, b13, some (eQ z), some (.nl BL)] S5 := by
    simp only [dSet, tb', sE]
    rfl
  have q10 : tn10 [a0, some (.ref 0), a2, a3, a4, some (eF f), some (.nl (xs.map eQ)), some (eQ x), a8, some (.int i), some (eQ y), b11, a12, b13, some (eQ z), some (.nl BL)] S5 = .nx [a0, some (.ref 0), a2, a3, a4, some (eF f), some (.nl (xs.map eQ)), some (eQ x), a8, some (.int i), some (eQ y), b11, a12, b13, some (eQ z), some (.nl BL)] (S5 ++ l6) := by
    simp [tn10, runF, startP, endOf, dRet, dRetN, dIf, dIfS, dB, dBin, dUn, dV, dC, sE, asB, dSeq, dSet, dPar, dPar3, dAsg, dExpr, dAnd, dOr, dNot, bAnd, bOr, bNot, dTru, dCB, dCons, dNil, dTup, dLst, dChain, dPass, fCmpI, fIsN, gTp, gsCons, gsNil, gNm, mkTup, dSl, dPart, dNoPart, lim, iLt, iLe, iGt, iGe, n6, tt, qt]
  rw [tn_is]
  simp only [dSeq, q0, q1, q2, q3, q4, q5, q6, t7, q8, q9, q10]
end G04
end
section
set_option Elab.async false
set_option linter.all false
set_option maxRecDepth 100000
set_option maxHeartbeats 1000000
set_option exponentiation.threshold 5000
namespace G04
open PySem PySem.Spec PyProof.Rows L2 Mi Ra
/-! ### refusals (k04) -/
def wdH : Str → List (Str × PV) → EnP → Sto → SR := (fun c1 fs => dSeq (dSet 2 (dLst false (dCons (dCB (fIsE (isF fs (isT c1))) (dCons (dV 1) (dCons (dC (.glb ("NoFormat" : Str))) (dNil)))) (dCons (dCB (fIsE (isF fs (isT c1))) (dCons (dV 1) (dCons (dC (.glb ("NoFraction" : Str))) (dNil)))) (dCons (dCB (fIsE (isF fs (isT c1))) (dCons (dV 1) (dCons (dC (.glb ("NoNumberOf" : Str))) (dNil)))) (dNil)))))) (dSeq (dSet 2 (dBin (fAdd false) (dV 2) (dLst false (dCons (dCB (fIsE (isF fs (isT c1))) (dCons (dV 1) (dCons (dC (.glb ("NoStretch" : Str))) (dNil)))) (dCons (dCB (fIsE (isF fs (isT c1))) (dCons (dV 1) (dCons (dC (.glb ("TooMany" : Str))) (dNil)))) (dNil)))))) (dSeq (dIfS (bOr (dB (dBin (fEq true) (dCount (dV 2) (dCons (dC (.bl true)) (dNil))) (dC (.int 1)))) (bNot (dTru (dCB (fIsE (isF fs (isT c1))) (dCons (dV 1) (dCons (dC (.ty "ValueError")) (dNil))))))) (dRet (dC (.str ("odd" : Str)))) (dPass)) (dRet (dBin fIx (dLst false (dCons (dC (.str ("format" : Str))) (dCons (dC (.str ("fraction" : Str))) (dCons (dC (.str ("number of" : Str))) (dCons (dC (.str ("stretch" : Str))) (dCons (dC (.str ("many" : Str))) (dNil))))))) (dIndex (dV 2) (dCons (dC (.bl true)) (dNil))))))))
theorem said {c : Str} {t : Str} {K : Sto → Res PV} {S : Sto} (hc : (c = "NoFormat" ∧ t = "format") ∨ (c = "NoFraction" ∧ t = "fraction") ∨ (c = "NoNumberOf" ∧ t = "number of") ∨ (c = "NoStretch" ∧ t = "stretch")) (h : K S = .exc c [] S) : G_law_said_L K S = .ok (.str t) S := by
  have dd : d_law_said_L K = dSeq (dTry 1 catT (dExpr (dAct 0 K)) wdH) (dRet (dC (.str ("let" : Str)))) := rfl
  rcases hc with ⟨rfl, rfl⟩ | ⟨rfl, rfl⟩ | ⟨rfl, rfl⟩ | ⟨rfl, rfl⟩
  · have c : catT "NoFormat" = some true := by kernel_rfl
    have hd : wdH "NoFormat" [] [none, some .err, none] [] = .rt (.str "format") [] := by kernel_rfl
    have a : dAct 0 K [some .lam, none, none] S = .exc "NoFormat" [] S := h
    simp [G_law_said_L, lamF, dd, dTry, runF, startP, endOf, dRet, dRetN, dIf, dIfS, dB, dBin, dUn, dV, dC, sE, asB, dSeq, dSet, dPar, dPar3, dAsg, dExpr, dAnd, dOr, dNot, bAnd, bOr, bNot, dTru, dCB, dCons, dNil, dTup, dLst, dChain, dPass, fCmpI, fIsN, gTp, gsCons, gsNil, gNm, mkTup, dSl, dPart, dNoPart, lim, iLt, iLe, iGt, iGe, a, c, hd, tryEnd, errEnv, cleanR, flatP]
  · have c : catT "NoFraction" = some true := by kernel_rfl
    have hd : wdH "NoFraction" [] [none, some .err, none] [] = .rt (.str "fraction") [] := by kernel_rfl
    have a : dAct 0 K [some .lam, none, none] S = .exc "NoFraction" [] S := h
    simp [G_law_said_L, lamF, dd, dTry, runF, startP, endOf, dRet, dRetN, dIf, dIfS, dB, dBin, dUn, dV, dC, sE, asB, dSeq, dSet, dPar, dPar3, dAsg, dExpr, dAnd, dOr, dNot, bAnd, bOr, bNot, dTru, dCB, dCons, dNil, dTup, dLst, dChain, dPass, fCmpI, fIsN, gTp, gsCons, gsNil, gNm, mkTup, dSl, dPart, dNoPart, lim, iLt, iLe, iGt, iGe, a, c, hd, tryEnd, errEnv, cleanR, flatP]
  · have c : catT "NoNumberOf" = some true := by kernel_rfl
    have hd : wdH "NoNumberOf" [] [none, some .err, none] [] = .rt (.str "number of") [] := by kernel_rfl
    have a : dAct 0 K [some .lam, none, none] S = .exc "NoNumberOf" [] S := h
    simp [G_law_said_L, lamF, dd, dTry, runF, startP, endOf, dRet, dRetN, dIf, dIfS, dB, dBin, dUn, dV, dC, sE, asB, dSeq, dSet, dPar, dPar3, dAsg, dExpr, dAnd, dOr, dNot, bAnd, bOr, bNot, dTru, dCB, dCons, dNil, dTup, dLst, dChain, dPass, fCmpI, fIsN, gTp, gsCons, gsNil, gNm, mkTup, dSl, dPart, dNoPart, lim, iLt, iLe, iGt, iGe, a, c, hd, tryEnd, errEnv, cleanR, flatP]
  · have c : catT "NoStretch" = some true := by kernel_rfl
    have hd : wdH "NoStretch" [] [none, some .err, none] [] = .rt (.str "stretch") [] := by kernel_rfl
    have a : dAct 0 K [some .lam, none, none] S = .exc "NoStretch" [] S := h
    simp [G_law_said_L, lamF, dd, dTry, runF, startP, endOf, dRet, dRetN, dIf, dIfS, dB, dBin, dUn, dV, dC, sE, asB, dSeq, dSet, dPar, dPar3, dAsg, dExpr, dAnd, dOr, dNot, bAnd, bOr, bNot, dTru, dCB, dCons, dNil, dTup, dLst, dChain, dPass, fCmpI, fIsN, gTp, gsCons, gsNil, gNm, mkTup, dSl, dPart, dNoPart, lim, iLt, iLe, iGt, iGe, a, c, hd, tryEnd, errEnv, cleanR, flatP]
theorem saidM {i : Int} {K : Sto → Res PV} {S : Sto} (h : K S = .exc "TooMany" [("most", .int i)] S) : G_law_said_L K S = .ok (.str "many") S := by
  have dd : d_law_said_L K = dSeq (dTry 1 catT (dExpr (dAct 0 K)) wdH) (dRet (dC (.str ("let" : Str)))) := rfl
  have c : catT "TooMany" = some true := by kernel_rfl
  have hd : wdH "TooMany" [("most", .int i)] [none, some .err, none] [] = .rt (.str "many") [] := by kernel_rfl
  have a : dAct 0 K [some .lam, none, none] S = .exc "TooMany" [("most", .int i)] S := h
  simp [G_law_said_L, lamF, dd, dTry, runF, startP, endOf, dRet, dRetN, dIf, dIfS, dB, dBin, dUn, dV, dC, sE, asB, dSeq, dSet, dPar, dPar3, dAsg, dExpr, dAnd, dOr, dNot, bAnd, bOr, bNot, dTru, dCB, dCons, dNil, dTup, dLst, dChain, dPass, fCmpI, fIsN, gTp, gsCons, gsNil, gNm, mkTup, dSl, dPart, dNoPart, lim, iLt, iLe, iGt, iGe, a, c, hd, tryEnd, errEnv, cleanR, flatP]
def Nf (v : PV) : Prop := ∀ S, F_is_fraction [v] S = .ok (.bl false) S
def Nm (v : PV) : Prop := ∀ S, F_is_format [v] S = .ok (.bl false) S
theorem chk_nf {v : PV} (h : Nf v) (S : Sto) : F_check_fraction [v] S = .exc "NoFraction" [] S := by
  have h := h S
  simp [F_check_fraction, d_check_fraction, runF, startP, endOf, dRet, dRetN, dIf, dIfS, dB, dBin, dUn, dV, dC, sE, asB, dSeq, dSet, dPar, dPar3, dAsg, dExpr, dAnd, dOr, dNot, bAnd, bOr, bNot, dTru, dCB, dCons, dNil, dTup, dLst, dChain, dPass, fCmpI, fIsN, gTp, gsCons, gsNil, gNm, mkTup, dSl, dPart, dNoPart, lim, iLt, iLe, iGt, iGe, h, truP, dRaise]
theorem chk_nm {v : PV} (h : Nm v) (S : Sto) : F_check_format [v] S = .exc "NoFormat" [] S := by
  have h := h S
  simp [F_check_format, d_check_format, runF, startP, endOf, dRet, dRetN, dIf, dIfS, dB, dBin, dUn, dV, dC, sE, asB, dSeq, dSet, dPar, dPar3, dAsg, dExpr, dAnd, dOr, dNot, bAnd, bOr, bNot, dTru, dCB, dCons, dNil, dTup, dLst, dChain, dPass, fCmpI, fIsN, gTp, gsCons, gsNil, gNm, mkTup, dSl, dPart, dNoPart, lim, iLt, iLe, iGt, iGe, h, truP, dRaise]
theorem chk_nn {f : Fm} {v : PV} (hf : FmOk f) (h : Nf v) (S : Sto) : F_check_number [eF f, v] S = .exc "NoNumberOf" [] S := by
  have h := h S
  simp [F_check_number, d_check_number, runF, startP, endOf, dRet, dRetN, dIf, dIfS, dB, dBin, dUn, dV, dC, sE, asB, dSeq, dSet, dPar, dPar3, dAsg, dExpr, dAnd, dOr, dNot, bAnd, bOr, bNot, dTru, dCB, dCons, dNil, dTup, dLst, dChain, dPass, fCmpI, fIsN, gTp, gsCons, gsNil, gNm, mkTup, dSl, dPart, dNoPart, lim, iLt, iLe, iGt, iGe, e_chk_format hf, h, truP, dRaise]
theorem chk_nq {f : Fm} {x : Rat} (hf : FmOk f) (hx : Ok x) (h : ¬ IsNum f x) (S : Sto) : F_check_number [eF f, eQ x] S = .exc "NoNumberOf" [] S := by
  have n := fun S => e_raw_is_numberN (S := S) hf hx h
  simp [F_check_number, d_check_number, runF, startP, endOf, dRet, dRetN, dIf, dIfS, dB, dBin, dUn, dV, dC, sE, asB, dSeq, dSet, dPar, dPar3, dAsg, dExpr, dAnd, dOr, dNot, bAnd, bOr, bNot, dTru, dCB, dCons, dNil, dTup, dLst, dChain, dPass, fCmpI, fIsN, gTp, gsCons, gsNil, gNm, mkTup, dSl, dPart, dNoPart, lim, iLt, iLe, iGt, iGe, e_chk_format hf, e_fraction hx, n, truP, dRaise]
theorem e_no_frac {b : Int} {S : Sto} (hk : Hk b S) (hb : b ≤ 990000000) : ∃ v S', F_law_any_L [.ref 0, .nl [.non, .int 1, .str "?", .tup [.int 2, .int 4], .tup [.int 1, .int 0], .tup [.int 1, .int (-2)], .nl [.int 1, .int 2], .tup [.int 1, .bl true], .tup [.int 0, .int 2]]] S = .ok v S' ∧ Nf v ∧ Hk (b + 1) S' := by
  obtain ⟨y, hy, S1, e1, k1⟩ := e_any (xs := [.non, .int 1, .str "?", .tup [.int 2, .int 4], .tup [.int 1, .int 0], .tup [.int 1, .int (-2)], .nl [.int 1, .int 2], .tup [.int 1, .bl true], .tup [.int 0, .int 2]]) hk (by omega) (by simp) (by simp)
  refine ⟨y, S1, e1, ?_, k1⟩
  simp at hy
  rcases hy with rfl | rfl | rfl | rfl | rfl | rfl | rfl | rfl | rfl <;> exact fun S => by kernel_rfl
theorem e_no_form {f : Fm} {b : Int} {S : Sto} (hk : Hk b S) (hb : b ≤ 990000000) : ∃ v S', F_law_any_L [.ref 0, .nl [.non, .str "?", .tup [.int 1, .int 2, .int 0, .int 1], .tup [.int 17, .int 2, .int 0, .int 1], .tup [.int 2, .int 0, .int 0, .int 1], .tup [.int 2, .int 61, .int 0, .int 1], .tup [.int 2, .int 2, .int 1, .int 0], .nl [.int f.b, .int f.k, .int f.lo, .int f.hi], .tup [.int f.b, .int f.k, .int f.lo], .tup [.int 2, .int 2, .int (-401), .int 0], .tup [.bl true, .int 2, .int 0, .int 1]]] S = .ok v S' ∧ Nm v ∧ Hk (b + 1) S' := by
  obtain ⟨y, hy, S1, e1, k1⟩ := e_any (xs := [.non, .str "?", .tup [.int 1, .int 2, .int 0, .int 1], .tup [.int 17, .int 2, .int 0, .int 1], .tup [.int 2, .int 0, .int 0, .int 1], .tup [.int 2, .int 61, .int 0, .int 1], .tup [.int 2, .int 2, .int 1, .int 0], .nl [.int f.b, .int f.k, .int f.lo, .int f.hi], .tup [.int f.b, .int f.k, .int f.lo], .tup [.int 2, .int 2, .int (-401), .int 0], .tup [.bl true, .int 2, .int 0, .int 1]]) hk (by omega) (by simp) (by simp)
  refine ⟨y, S1, e1, ?_, k1⟩
  simp at hy
  rcases hy with rfl | rfl | rfl | rfl | rfl | rfl | rfl | rfl | rfl | rfl | rfl <;> exact fun S => by kernel_rfl
theorem set_lst {g : EnP → Sto → Res PV} {ρ : EnP} {S : Sto} {i : Nat} {v : PV} (hg : g ρ S = .ok v S) : dSet i (dLst true (dCons g dNil)) ρ S = .nx (ρ.set i (some (.ref S.length))) (S ++ [SO.lst [v]]) := by
  simp [dSet, dLst, dCons, dNil, hg, mkLst, lim, sE]
theorem set_add {g : EnP → Sto → Res PV} {ρ : EnP} {S : Sto} {i n : Nat} {v : PV} {xs : List PV} (hg : g ρ S = .ok v S) (hi : ρ[i]? = some (some (.ref n))) (hs : S[n]? = some (SO.lst xs)) (hl : xs.length ≤ 100) :
    dSet i (dBin (fAdd true) (dV i) (dLst false (dCons g dNil))) ρ S = .nx (ρ.set i (some (.ref S.length))) (S ++ [SO.lst (xs ++ [v])]) := by
  have l : xs.length + 1 ≤ 16777216 := by omega
  have m1 : mkLst false [v] S = .ok (.nl [v]) S := rfl
  have a1 : fAdd true (.ref n) (.nl [v]) S = .ok (.ref S.length) (S ++ [SO.lst (xs ++ [v])]) := by
    show (match lstT (.ref n) S, lstT (.nl [v]) S with | some xs, some ys => mkLst true (xs ++ ys) S | _, _ => .bad) = _
    have e : lstT (.ref n) S = some xs := by
      show (match S[n]? with | some (SO.lst xs) => some xs | _ => none) = _
      rw [hs]
    rw [e]
    show mkLst true (xs ++ [v]) S = _
    unfold mkLst
    rw [if_pos (by rw [List.length_append]; exact l)]
    rfl
  simp only [dSet, dBin, dV, hi, dLst, dCons, dNil, hg, Res.bind_ok, m1, a1, sE]
def kw1 : EnP → Sto → Res PV := (fun ρ S => G_law_said_L (fun S => (dCB F_most_of (dCons (dV 3) (dNil))) ρ S) S)
def kw2 : EnP → Sto → Res PV := (fun ρ S => G_law_said_L (fun S => (dCB F_gap_at (dCons (dV 3) (dCons (dV 4) (dNil)))) ρ S) S)
def kw3 : EnP → Sto → Res PV := (fun ρ S => G_law_said_L (fun S => (dCB F_gap_at (dCons (dV 1) (dCons (dV 4) (dNil)))) ρ S) S)
def kw4 : EnP → Sto → Res PV := (fun ρ S => G_law_said_L (fun S => (dCB F_next_up (dCons (dV 1) (dCons (dV 4) (dNil)))) ρ S) S)
def kw5 : EnP → Sto → Res PV := (fun ρ S => G_law_said_L (fun S => (dCB F_next_down (dCons (dV 1) (dCons (dCB F_law_over_L (dCons (dCB F_least_of (dCons (dV 1) (dNil))) (dCons (dTup (dCons (dIf (dB (dBin (fEq false) (dBin fIx (dV 1) (dC (.int 0))) (dC (.int 2)))) (dC (.int 3)) (dC (.int 7))) (dCons (dC (.int 1)) (dNil)))) (dNil)))) (dNil)))) ρ S) S)
def kw6 : EnP → Sto → Res PV := (fun ρ S => G_law_said_L (fun S => (dCB F_numbers_from (dCons (dV 1) (dCons (dTup (dCons (dC (.int 1)) (dCons (dC (.int 1)) (dNil)))) (dCons (dV 4) (dNil))))) ρ S) S)
def kw7 : EnP → Sto → Res PV := (fun ρ S => G_law_said_L (fun S => (dCB F_numbers_from (dCons (dV 1) (dCons (dTup (dCons (dC (.int 1)) (dCons (dC (.int 1)) (dNil)))) (dCons (dTup (dCons (dC (.int 0)) (dCons (dC (.int 1)) (dNil)))) (dNil))))) ρ S) S)
def kw8 : EnP → Sto → Res PV := (fun ρ S => G_law_said_L (fun S => (dCB F_numbers_many (dCons (dTup (dCons (dC (.int 16)) (dCons (dC (.int 60)) (dCons (dC (.int 0)) (dCons (dC (.int 0)) (dNil)))))) (dNil))) ρ S) S)
def rf0 : EnP → Sto → SR := (dSet 2 (dLst false (dCons (dC .non) (dCons (dC (.str ("?" : Str))) (dCons (dTup (dCons (dC (.int 1)) (dCons (dC (.int 2)) (dCons (dC (.int 0)) (dCons (dC (.int 1)) (dNil)))))) (dCons (dTup (dCons (dC (.int 17)) (dCons (dC (.int 2)) (dCons (dC (.int 0)) (dCons (dC (.int 1)) (dNil)))))) (dCons (dTup (dCons (dC (.int 2)) (dCons (dC (.int 0)) (dCons (dC (.int 0)) (dCons (dC (.int 1)) (dNil)))))) (dCons (dTup (dCons (dC (.int 2)) (dCons (dC (.int 61)) (dCons (dC (.int 0)) (dCons (dC (.int 1)) (dNil)))))) (dCons (dTup (dCons (dC (.int 2)) (dCons (dC (.int 2)) (dCons (dC (.int 1)) (dCons (dC (.int 0)) (dNil)))))) (dCons (dCB (fList false) (dCons (dV 1) (dNil))) (dCons (dSl false (dV 1) (dNoPart) (dPart (dC (.int 3)))) (dNil))))))))))))
def rf1 : EnP → Sto → SR := (dSet 2 (dBin (fAdd false) (dV 2) (dLst false (dCons (dTup (dCons (dC (.int 2)) (dCons (dC (.int 2)) (dCons (dUn fNeg (dC (.int 401))) (dCons (dC (.int 0)) (dNil)))))) (dCons (dTup (dCons (dC (.bl true)) (dCons (dC (.int 2)) (dCons (dC (.int 0)) (dCons (dC (.int 1)) (dNil)))))) (dNil))))))
def rf2 : EnP → Sto → SR := (dSet 3 (dCB F_law_any_L (dCons (dV 0) (dCons (dV 2) (dNil)))))
def rf3 : EnP → Sto → SR := (dSet 4 (dCB F_law_any_L (dCons (dV 0) (dCons (dLst false (dCons (dC .non) (dCons (dC (.int 1)) (dCons (dC (.str ("?" : Str))) (dCons (dTup (dCons (dC (.int 2)) (dCons (dC (.int 4)) (dNil)))) (dCons (dTup (dCons (dC (.int 1)) (dCons (dC (.int 0)) (dNil)))) (dCons (dTup (dCons (dC (.int 1)) (dCons (dUn fNeg (dC (.int 2))) (dNil)))) (dCons (dLst false (dCons (dC (.int 1)) (dCons (dC (.int 2)) (dNil)))) (dCons (dTup (dCons (dC (.int 1)) (dCons (dC (.bl true)) (dNil)))) (dCons (dTup (dCons (dC (.int 0)) (dCons (dC (.int 2)) (dNil)))) (dNil))))))))))) (dNil)))))
def rfE : EnP → Sto → SR := (dSeq (dIfS (bOr (dB (dBin (fIs true) (dCB F_is_format (dCons (dV 3) (dNil))) (dC (.bl false)))) (dB (dBin (fIs true) (dCB F_is_format (dCons (dV 1) (dNil))) (dC (.bl true))))) (dRet (dC (.bl false))) (dPass)) (dRet (dBin (fEq false) (dV 5) (dLst false (dCons (dC (.str ("format" : Str))) (dCons (dC (.str ("format" : Str))) (dCons (dC (.str ("fraction" : Str))) (dCons (dC (.str ("number of" : Str))) (dCons (dC (.str ("number of" : Str))) (dCons (dC (.str ("fraction" : Str))) (dCons (dC (.str ("stretch" : Str))) (dCons (dC (.str ("many" : Str))) (dNil)))))))))))))
theorem third_no {f : Fm} {c : Nat} (hf : FmOk f) (hc : c = 3 ∨ c = 7) : ¬ IsNum f (pw f.b f.lo / (c : Rat)) := fun h => by
  obtain ⟨j, hj⟩ := num_lo hf h
  have p := pw_pos (b_pos hf) f.lo
  have c0 : (c : Rat) ≠ 0 := nat_ne (by omega)
  have e : (1 : Rat) = (j : Rat) * (c : Rat) := by
    have pn : pw f.b f.lo ≠ 0 := by grind
    generalize pw f.b f.lo = w at *
    generalize (c : Rat) = d at *
    generalize (j : Rat) = i at *
    rw [Rat.div_def] at hj
    have h2 : w = i * w * d := by
      have : w * d⁻¹ * d = i * w * d := by rw [hj]
      grind
    have h3 : w * (1 - i * d) = 0 := by grind
    grind
  have e2 : ((1 : Int) : Rat) = ((j * (c : Int) : Int) : Rat) := by
    rw [Rat.intCast_mul, Rat.intCast_natCast, ← e]
    rfl
  have e3 := Rat.intCast_inj.mp e2
  rcases hc with rfl | rfl <;> omega
theorem l_refused {f : Fm} {b : Int} {S : Sto} (hk : Hk b S) (hb : b ≤ 960000000) (hf : FmS f) : ∃ S', F_law_refused_right_L [.ref 0, eF f] S = .ok (.bl true) S' ∧ Hk (b + 2) S' := by
  obtain ⟨v, S1, e1, nv, k1⟩ := e_no_form (f := f) hk (by omega)
  obtain ⟨x, S2, e2, nx, k2⟩ := e_no_frac k1 (by omega)
  have c1 := chk_nm nv
  have c2 := chk_nf nx
  have c3 := chk_nn hf.ok nx
  have o1 : Ok (1 : Rat) := ⟨by decide +kernel, by decide +kernel⟩
  have o0 : Ok (0 : Rat) := ⟨by decide +kernel, by decide +kernel⟩
  have e11 : PV.tup [.int 1, .int 1] = eQ 1 := by kernel_rfl
  have e01 : PV.tup [.int 0, .int 1] = eQ 0 := by kernel_rfl
  have k6 : ∀ S, F_check_two [eQ 1, x] S = .exc "NoFraction" [] S := fun S => by simp [F_check_two, d_check_two, runF, startP, endOf, dRet, dRetN, dIf, dIfS, dB, dBin, dUn, dV, dC, sE, asB, dSeq, dSet, dPar, dPar3, dAsg, dExpr, dAnd, dOr, dNot, bAnd, bOr, bNot, dTru, dCB, dCons, dNil, dTup, dLst, dChain, dPass, fCmpI, fIsN, gTp, gsCons, gsNil, gNm, mkTup, dSl, dPart, dNoPart, lim, iLt, iLe, iGt, iGe, e_chkf o1, c2]
  have k7 := fun S => e_chk2 (S := S) o1 o0
  have a7 := fun S => e_raw_at_most (S := S) o1 o0
  have n10 : ¬ ((1 : Rat) ≤ 0) := by decide +kernel
  have lf := fun S => e_least_fm (S := S) hf.ok
  have key5 : ∀ c : Nat, (c = 3 ∨ c = 7) → ∀ S, F_law_over_L [eQ (pw f.b f.lo), .tup [.int (c : Int), .int 1]] S = .ok (eQ (pw f.b f.lo / (c : Rat))) S ∧ F_check_number [eF f, eQ (pw f.b f.lo / (c : Rat))] S = .exc "NoNumberOf" [] S := fun c hc S => by
    have op : Bd (10 ^ 140) (pw f.b f.lo) := stp_ok hf.ok
    have oc : Bd 10 (c : Rat) := nat_bd (by omega) (by decide)
    have cp : (0 : Rat) < (c : Rat) := Rat.natCast_lt_natCast (a := 0) |>.mpr (by omega)
    have od := Bd.div op oc (by grind)
    rw [q_nat]
    exact ⟨l_over (op.ok (by decide +kernel)) (oc.ok (by decide +kernel)) cp, chk_nq hf.ok (od.ok (by decide +kernel)) (third_no hf.ok hc) S⟩
  have w1 : ∀ OD a5 S, kw1 [some (.ref 0), some (eF f), OD, some v, some x, a5] S = .ok (.str "format") S := fun OD a5 S => said (c := "NoFormat") (by simp) (by simp [runF, startP, endOf, dRet, dRetN, dIf, dIfS, dB, dBin, dUn, dV, dC, sE, asB, dSeq, dSet, dPar, dPar3, dAsg, dExpr, dAnd, dOr, dNot, bAnd, bOr, bNot, dTru, dCB, dCons, dNil, dTup, dLst, dChain, dPass, fCmpI, fIsN, gTp, gsCons, gsNil, gNm, mkTup, dSl, dPart, dNoPart, lim, iLt, iLe, iGt, iGe, F_most_of, d_most_of, c1])
  have w2 : ∀ OD a5 S, kw2 [some (.ref 0), some (eF f), OD, some v, some x, a5] S = .ok (.str "format") S := fun OD a5 S => said (c := "NoFormat") (by simp) (by simp [runF, startP, endOf, dRet, dRetN, dIf, dIfS, dB, dBin, dUn, dV, dC, sE, asB, dSeq, dSet, dPar, dPar3, dAsg, dExpr, dAnd, dOr, dNot, bAnd, bOr, bNot, dTru, dCB, dCons, dNil, dTup, dLst, dChain, dPass, fCmpI, fIsN, gTp, gsCons, gsNil, gNm, mkTup, dSl, dPart, dNoPart, lim, iLt, iLe, iGt, iGe, F_gap_at, d_gap_at, c1])
  have w3 : ∀ OD a5 S, kw3 [some (.ref 0), some (eF f), OD, some v, some x, a5] S = .ok (.str "fraction") S := fun OD a5 S => said (c := "NoFraction") (by simp) (by simp [runF, startP, endOf, dRet, dRetN, dIf, dIfS, dB, dBin, dUn, dV, dC, sE, asB, dSeq, dSet, dPar, dPar3, dAsg, dExpr, dAnd, dOr, dNot, bAnd, bOr, bNot, dTru, dCB, dCons, dNil, dTup, dLst, dChain, dPass, fCmpI, fIsN, gTp, gsCons, gsNil, gNm, mkTup, dSl, dPart, dNoPart, lim, iLt, iLe, iGt, iGe, F_gap_at, d_gap_at, e_chk_format hf.ok, c2])
  have w4 : ∀ OD a5 S, kw4 [some (.ref 0), some (eF f), OD, some v, some x, a5] S = .ok (.str "number of") S := fun OD a5 S => said (c := "NoNumberOf") (by simp) (by simp [runF, startP, endOf, dRet, dRetN, dIf, dIfS, dB, dBin, dUn, dV, dC, sE, asB, dSeq, dSet, dPar, dPar3, dAsg, dExpr, dAnd, dOr, dNot, bAnd, bOr, bNot, dTru, dCB, dCons, dNil, dTup, dLst, dChain, dPass, fCmpI, fIsN, gTp, gsCons, gsNil, gNm, mkTup, dSl, dPart, dNoPart, lim, iLt, iLe, iGt, iGe, F_next_up, d_next_up, c3])
  have w5 : ∀ OD a5 S, kw5 [some (.ref 0), some (eF f), OD, some v, some x, a5] S = .ok (.str "number of") S := fun OD a5 S => said (c := "NoNumberOf") (by simp) (by
    by_cases c : f.b = 2
    · have k5 := fun S => key5 3 (.inl rfl) S
      have k5a := fun S => (k5 S).1
      have k5b := fun S => (k5 S).2
      have we : ∀ S, fEq false (.int (f.b : Int)) (.int 2) S = .ok (.bl true) S := fun S => by rw [w_eq, c]; rfl
      have cc : ((3 : Nat) : Int) = 3 := rfl
      rw [cc] at k5a
      generalize pw f.b f.lo / ((3 : Nat) : Rat) = X at k5a k5b
      simp [runF, startP, endOf, dRet, dRetN, dIf, dIfS, dB, dBin, dUn, dV, dC, sE, asB, dSeq, dSet, dPar, dPar3, dAsg, dExpr, dAnd, dOr, dNot, bAnd, bOr, bNot, dTru, dCB, dCons, dNil, dTup, dLst, dChain, dPass, fCmpI, fIsN, gTp, gsCons, gsNil, gNm, mkTup, dSl, dPart, dNoPart, lim, iLt, iLe, iGt, iGe, lf, ix_f0, we, k5a, F_next_down, d_next_down, k5b]
    · have k5 := fun S => key5 7 (.inr rfl) S
      have k5a := fun S => (k5 S).1
      have k5b := fun S => (k5 S).2
      have we : ∀ S, fEq false (.int (f.b : Int)) (.int 2) S = .ok (.bl false) S := fun S => by rw [w_eq]; simp; omega
      have cc : ((7 : Nat) : Int) = 7 := rfl
      rw [cc] at k5a
      generalize pw f.b f.lo / ((7 : Nat) : Rat) = X at k5a k5b
      simp [runF, startP, endOf, dRet, dRetN, dIf, dIfS, dB, dBin, dUn, dV, dC, sE, asB, dSeq, dSet, dPar, dPar3, dAsg, dExpr, dAnd, dOr, dNot, bAnd, bOr, bNot, dTru, dCB, dCons, dNil, dTup, dLst, dChain, dPass, fCmpI, fIsN, gTp, gsCons, gsNil, gNm, mkTup, dSl, dPart, dNoPart, lim, iLt, iLe, iGt, iGe, lf, ix_f0, we, k5a, F_next_down, d_next_down, k5b])
  have w6 : ∀ OD a5 S, kw6 [some (.ref 0), some (eF f), OD, some v, some x, a5] S = .ok (.str "fraction") S := fun OD a5 S => said (c := "NoFraction") (by simp) (by simp [runF, startP, endOf, dRet, dRetN, dIf, dIfS, dB, dBin, dUn, dV, dC, sE, asB, dSeq, dSet, dPar, dPar3, dAsg, dExpr, dAnd, dOr, dNot, bAnd, bOr, bNot, dTru, dCB, dCons, dNil, dTup, dLst, dChain, dPass, fCmpI, fIsN, gTp, gsCons, gsNil, gNm, mkTup, dSl, dPart, dNoPart, lim, iLt, iLe, iGt, iGe, e11, F_numbers_from, d_numbers_from, e_chk_format hf.ok, k6])
  have w7 : ∀ OD a5 S, kw7 [some (.ref 0), some (eF f), OD, some v, some x, a5] S = .ok (.str "stretch") S := fun OD a5 S => said (c := "NoStretch") (by simp) (by simp [runF, startP, endOf, dRet, dRetN, dIf, dIfS, dB, dBin, dUn, dV, dC, sE, asB, dSeq, dSet, dPar, dPar3, dAsg, dExpr, dAnd, dOr, dNot, bAnd, bOr, bNot, dTru, dCB, dCons, dNil, dTup, dLst, dChain, dPass, fCmpI, fIsN, gTp, gsCons, gsNil, gNm, mkTup, dSl, dPart, dNoPart, lim, iLt, iLe, iGt, iGe, e11, e01, F_numbers_from, d_numbers_from, e_chk_format hf.ok, k7, a7, n10, truP, dRaise])
  have w8 : ∀ OD a5 S, kw8 [some (.ref 0), some (eF f), OD, some v, some x, a5] S = .ok (.str "many") S := fun OD a5 S => saidM (i := 10000) (by kernel_rfl)
  have A : rf0 [some (.ref 0), some (eF f), none, none, none, none] S = .nx [some (.ref 0), some (eF f), some (.nl [.non, .str "?", .tup [.int 1, .int 2, .int 0, .int 1], .tup [.int 17, .int 2, .int 0, .int 1], .tup [.int 2, .int 0, .int 0, .int 1], .tup [.int 2, .int 61, .int 0, .int 1], .tup [.int 2, .int 2, .int 1, .int 0], .nl [.int f.b, .int f.k, .int f.lo, .int f.hi], .tup [.int f.b, .int f.k, .int f.lo]]), none, none, none] S := rfl
  have A1 : rf1 [some (.ref 0), some (eF f), some (.nl [.non, .str "?", .tup [.int 1, .int 2, .int 0, .int 1], .tup [.int 17, .int 2, .int 0, .int 1], .tup [.int 2, .int 0, .int 0, .int 1], .tup [.int 2, .int 61, .int 0, .int 1], .tup [.int 2, .int 2, .int 1, .int 0], .nl [.int f.b, .int f.k, .int f.lo, .int f.hi], .tup [.int f.b, .int f.k, .int f.lo]]), none, none, none] S = .nx [some (.ref 0), some (eF f), some (.nl [.non, .str "?", .tup [.int 1, .int 2, .int 0, .int 1], .tup [.int 17, .int 2, .int 0, .int 1], .tup [.int 2, .int 0, .int 0, .int 1], .tup [.int 2, .int 61, .int 0, .int 1], .tup [.int 2, .int 2, .int 1, .int 0], .nl [.int f.b, .int f.k, .int f.lo, .int f.hi], .tup [.int f.b, .int f.k, .int f.lo], .tup [.int 2, .int 2, .int (-401), .int 0], .tup [.bl true, .int 2, .int 0, .int 1]]), none, none, none] S := rfl
  have A2 : rf2 [some (.ref 0), some (eF f), some (.nl [.non, .str "?", .tup [.int 1, .int 2, .int 0, .int 1], .tup [.int 17, .int 2, .int 0, .int 1], .tup [.int 2, .int 0, .int 0, .int 1], .tup [.int 2, .int 61, .int 0, .int 1], .tup [.int 2, .int 2, .int 1, .int 0], .nl [.int f.b, .int f.k, .int f.lo, .int f.hi], .tup [.int f.b, .int f.k, .int f.lo], .tup [.int 2, .int 2, .int (-401), .int 0], .tup [.bl true, .int 2, .int 0, .int 1]]), none, none, none] S = .nx [some (.ref 0), some (eF f), some (.nl [.non, .str "?", .tup [.int 1, .int 2, .int 0, .int 1], .tup [.int 17, .int 2, .int 0, .int 1], .tup [.int 2, .int 0, .int 0, .int 1], .tup [.int 2, .int 61, .int 0, .int 1], .tup [.int 2, .int 2, .int 1, .int 0], .nl [.int f.b, .int f.k, .int f.lo, .int f.hi], .tup [.int f.b, .int f.k, .int f.lo], .tup [.int 2, .int 2, .int (-401), .int 0], .tup [.bl true, .int 2, .int 0, .int 1]]), some v, none, none] S1 := by
    generalize PV.nl [.non, .str "?", .tup [.int 1, .int 2, .int 0, .int 1], .tup [.int 17, .int 2, .int 0, .int 1], .tup [.int 2, .int 0, .int 0, .int 1], .tup [.int 2, .int 61, .int 0, .int 1], .tup [.int 2, .int 2, .int 1, .int 0], .nl [.int f.b, .int f.k, .int f.lo, .int f.hi], .tup [.int f.b, .int f.k, .int f.lo], .tup [.int 2, .int 2, .int (-401), .int 0], .tup [.bl true, .int 2, .int 0, .int 1]] = O at *
    simp [rf2, runF, startP, endOf, dRet, dRetN, dIf, dIfS, dB, dBin, dUn, dV, dC, sE, asB, dSeq, dSet, dPar, dPar3, dAsg, dExpr, dAnd, dOr, dNot, bAnd, bOr, bNot, dTru, dCB, dCons, dNil, dTup, dLst, dChain, dPass, fCmpI, fIsN, gTp, gsCons, gsNil, gNm, mkTup, dSl, dPart, dNoPart, lim, iLt, iLe, iGt, iGe, e1]
  generalize (some (.nl [.non, .str "?", .tup [.int 1, .int 2, .int 0, .int 1], .tup [.int 17, .int 2, .int 0, .int 1], .tup [.int 2, .int 0, .int 0, .int 1], .tup [.int 2, .int 61, .int 0, .int 1], .tup [.int 2, .int 2, .int 1, .int 0], .nl [.int f.b, .int f.k, .int f.lo, .int f.hi], .tup [.int f.b, .int f.k, .int f.lo], .tup [.int 2, .int 2, .int (-401), .int 0], .tup [.bl true, .int 2, .int 0, .int 1]]) : Option PV) = OD at A1 A2
  have A3 : rf3 [some (.ref 0), some (eF f), OD, some v, none, none] S1 = .nx [some (.ref 0), some (eF f), OD, some v, some x, none] S2 := by
    simp [rf3, runF, startP, endOf, dRet, dRetN, dIf, dIfS, dB, dBin, dUn, dV, dC, sE, asB, dSeq, dSet, dPar, dPar3, dAsg, dExpr, dAnd, dOr, dNot, bAnd, bOr, bNot, dTru, dCB, dCons, dNil, dTup, dLst, dChain, dPass, fCmpI, fIsN, gTp, gsCons, gsNil, gNm, mkTup, dSl, dPart, dNoPart, lim, iLt, iLe, iGt, iGe, mkLst, w_neg, e2]
  have g1 := set_lst (i := 5) (w1 OD none S2)
  have g2 := app_is (i := 5) (n := S2.length) (xs := [.str "format"]) (w2 OD (some (.ref S2.length)) (S2 ++ [SO.lst [.str "format"]])) rfl (mid_get _ _ []) (by decide)
  rw [mid_set] at g2
  have g3 := set_add (i := 5) (n := S2.length) (xs := [.str "format", .str "format"]) (w3 OD (some (.ref S2.length)) (S2 ++ [SO.lst [.str "format", .str "format"]])) rfl (mid_get _ _ []) (by decide)
  simp only [List.cons_append, List.nil_append, List.set_cons_succ, List.set_cons_zero] at g1 g2 g3
  generalize hT : S2 ++ [SO.lst [.str "format", .str "format"]] = T at g2 g3
  have kT : Hk (b + 2) T := by rw [← hT]; exact (k2.more _).mono (by omega)
  have ap : ∀ (g : EnP → Sto → Res PV) (w : PV) (xs : List PV), (∀ a5 S, g [some (.ref 0), some (eF f), OD, some v, some x, a5] S = .ok w S) → xs.length ≤ 100 → dExpr (dApp (dV 5) (dCons g dNil)) [some (.ref 0), some (eF f), OD, some v, some x, some (.ref T.length)] (T ++ [SO.lst xs]) = .nx [some (.ref 0), some (eF f), OD, some v, some x, some (.ref T.length)] (T ++ [SO.lst (xs ++ [w])]) := fun g w xs hg hl => by
    have a := app_is (i := 5) (n := T.length) (xs := xs) (hg (some (.ref T.length)) (T ++ [SO.lst xs])) rfl (mid_get _ _ []) (by omega)
    rw [mid_set] at a
    exact a
  have g4 := ap kw4 (.str "number of") [.str "format", .str "format", .str "fraction"] (w4 OD) (by decide)
  have g5 := ap kw5 (.str "number of") [.str "format", .str "format", .str "fraction", .str "number of"] (w5 OD) (by decide)
  have g6 := ap kw6 (.str "fraction") [.str "format", .str "format", .str "fraction", .str "number of", .str "number of"] (w6 OD) (by decide)
  have g7 := ap kw7 (.str "stretch") [.str "format", .str "format", .str "fraction", .str "number of", .str "number of", .str "fraction"] (w7 OD) (by decide)
  have g8 := ap kw8 (.str "many") [.str "format", .str "format", .str "fraction", .str "number of", .str "number of", .str "fraction", .str "stretch"] (w8 OD) (by decide)
  simp only [List.cons_append, List.nil_append] at g4 g5 g6 g7 g8
  have sdl : ∀ S n, S[n]? = some (SO.lst [.str "format", .str "format", .str "fraction", .str "number of", .str "number of", .str "fraction", .str "stretch", .str "many"]) → fEq false (.ref n) (.nl [.str "format", .str "format", .str "fraction", .str "number of", .str "number of", .str "fraction", .str "stretch", .str "many"]) S = .ok (.bl true) S := fun S n h => by
    have e1 : toDS (.ref n) S = some (.list [.str "format", .str "format", .str "fraction", .str "number of", .str "number of", .str "fraction", .str "stretch", .str "many"]) := by
      show (match S[n]? with | some (SO.lst xs) => (toDL xs).map PyData.list | _ => none) = _
      rw [h]
      rfl
    have sh : SeqAt.shaped (.list [.str "format", .str "format", .str "fraction", .str "number of", .str "number of", .str "fraction", .str "stretch", .str "many"]) = true := by kernel_rfl
    have eqv : PyData.eqv (.list [.str "format", .str "format", .str "fraction", .str "number of", .str "number of", .str "fraction", .str "stretch", .str "many"]) (.list [.str "format", .str "format", .str "fraction", .str "number of", .str "number of", .str "fraction", .str "stretch", .str "many"]) = true := by kernel_rfl
    have e2 : toDS (.nl [.str "format", .str "format", .str "fraction", .str "number of", .str "number of", .str "fraction", .str "stretch", .str "many"]) S = some (.list [.str "format", .str "format", .str "fraction", .str "number of", .str "number of", .str "fraction", .str "stretch", .str "many"]) := rfl
    show (match toDS (.ref n) S, toDS (.nl [.str "format", .str "format", .str "fraction", .str "number of", .str "number of", .str "fraction", .str "stretch", .str "many"]) S with | some d, some e => if SeqAt.shaped d = true ∧ SeqAt.shaped e = true then Res.ok (PV.bl (if false = true then !PyData.eqv d e else PyData.eqv d e)) S else .bad | _, _ => .bad) = _
    rw [e1, e2]
    simp only
    rw [if_pos ⟨sh, sh⟩, eqv]
    rfl
  have ef := sdl (T ++ [SO.lst [.str "format", .str "format", .str "fraction", .str "number of", .str "number of", .str "fraction", .str "stretch", .str "many"]]) T.length (mid_get _ _ [])
  have nv' := fun S => nv S
  have gf := fun S => e_is_format (S := S) hf.ok
  have iF : ∀ S, fIs true (.bl false) (.bl false) S = .ok (.bl false) S := fun S => rfl
  have iT : ∀ S, fIs true (.bl true) (.bl true) S = .ok (.bl false) S := fun S => rfl
  refine ⟨T ++ [SO.lst [.str "format", .str "format", .str "fraction", .str "number of", .str "number of", .str "fraction", .str "stretch", .str "many"]], ?_, kT.more _⟩
  have E : endOf (rfE [some (.ref 0), some (eF f), OD, some v, some x, some (.ref T.length)] (T ++ [SO.lst [.str "format", .str "format", .str "fraction", .str "number of", .str "number of", .str "fraction", .str "stretch", .str "many"]])) = .ok (.bl true) (T ++ [SO.lst [.str "format", .str "format", .str "fraction", .str "number of", .str "number of", .str "fraction", .str "stretch", .str "many"]]) := by
    generalize T ++ [SO.lst [.str "format", .str "format", .str "fraction", .str "number of", .str "number of", .str "fraction", .str "stretch", .str "many"]] = U at *
    simp [rfE, runF, startP, endOf, dRet, dRetN, dIf, dIfS, dB, dBin, dUn, dV, dC, sE, asB, dSeq, dSet, dPar, dPar3, dAsg, dExpr, dAnd, dOr, dNot, bAnd, bOr, bNot, dTru, dCB, dCons, dNil, dTup, dLst, dChain, dPass, fCmpI, fIsN, gTp, gsCons, gsNil, gNm, mkTup, dSl, dPart, dNoPart, lim, iLt, iLe, iGt, iGe, nv', iF, gf, iT, mkLst, ef]
  have dd : d_law_refused_right_L = dSeq rf0 (dSeq rf1 (dSeq rf2 (dSeq rf3 (dSeq (dSet 5 (dLst true (dCons kw1 dNil))) (dSeq (dExpr (dApp (dV 5) (dCons kw2 dNil))) (dSeq (dSet 5 (dBin (fAdd true) (dV 5) (dLst false (dCons kw3 dNil)))) (dSeq (dExpr (dApp (dV 5) (dCons kw4 dNil))) (dSeq (dExpr (dApp (dV 5) (dCons kw5 dNil))) (dSeq (dExpr (dApp (dV 5) (dCons kw6 dNil))) (dSeq (dExpr (dApp (dV 5) (dCons kw7 dNil))) (dSeq (dExpr (dApp (dV 5) (dCons kw8 dNil))) rfE))))))))))) := rfl
  show endOf (d_law_refused_right_L [some (.ref 0), some (eF f), none, none, none, none] S) = _
  rw [dd]
  simp only [dSeq, A, A1, A2, A3, g1, g2, g3, g4, g5, g6, g7, g8]
  exact E
end G04
end
section
set_option Elab.async false
set_option linter.all false
set_option maxRecDepth 100000
set_option maxHeartbeats 1000000
set_option exponentiation.threshold 5000
namespace G04
open PySem PySem.Spec PyProof.Rows L2 Mi Ra
theorem head_min {p : Rat → Bool} {d : Rat} : ∀ {L : List Rat}, L.Pairwise (· < ·) → d ∈ L → p d = true → (∀ r ∈ L, p r = true → d ≤ r) → (L.filter p).head? = some d := by
  intro L
  induction L with
  | nil => intro _ h; cases h
  | cons a L ih =>
    intro hp hd hx hm
    obtain ⟨ha, hp⟩ := List.pairwise_cons.mp hp
    by_cases e : d = a
    · subst e
      rw [List.filter_cons_of_pos hx]
      rfl
    · have hd : d ∈ L := by
        rcases List.mem_cons.mp hd with z | z
        · exact absurd z e
        · exact z
      have l := ha d hd
      have ih := ih hp hd hx fun r hr => hm r (List.mem_cons_of_mem _ hr)
      have n : ¬ p a = true := fun q => by
        have := hm a List.mem_cons_self q
        grind
      rw [List.filter_cons_of_neg n]
      exact ih
theorem least_num {f : Fm} (hf : FmOk f) : IsNum f (pw f.b f.lo) := by
  have l := laid_num (f := f) (e := f.lo) (m := 1) hf (Int.le_refl _) hf.lh (Nat.one_lt_pow (by have := hf.k0; omega) (by have := hf.b0; omega))
  have o : ((1 : Nat) : Rat) = 1 := rfl
  rw [o, Rat.one_mul] at l
  exact l
theorem least_le {f : Fm} {r : Rat} (hf : FmOk f) (h : IsNum f r) (p : 0 < r) : pw f.b f.lo ≤ r := by
  have := num_gap hf (zero_num hf) h p
  grind
structure Fm4 (f : Fm) : Prop where
  t : FmT f
  lo : f.lo ≤ 0
  d : f.hi - f.lo ≤ 3
  pk : f.b ^ f.k.toNat ≤ 16
theorem row_500 {f : Fm} {xs : List Rat} (h4 : Fm4 f) (h : Row f xs) : xs.length ≤ 500 := by
  have hs := FmT.s h4.t
  have ct := h.count hs.ok
  have pk := h4.pk
  have : (f.hi - f.lo).toNat ≤ 3 := by have := h4.d; omega
  have m := Nat.mul_le_mul this (show f.b ^ f.k.toNat - f.b ^ (f.k.toNat - 1) ≤ 16 by omega)
  omega
def lp : EnP → Sto → SR := (dSeq (dSet 3 (dCB F_law_any_L (dCons (dV 1) (dCons (dLst false (dCons (dC (.int 2)) (dCons (dC (.int 2)) (dCons (dC (.int 3)) (dCons (dC (.int 4)) (dNil)))))) (dNil))))) (dSeq (dSet 4 (dBin fSub (dC (.int 0)) (dCB F_law_draw_L (dCons (dV 1) (dCons (dC (.int 4)) (dNil)))))) (dSeq (dSet 5 (dTup (dCons (dV 3) (dCons (dBin (fAdd false) (dC (.int 1)) (dCB F_law_draw_L (dCons (dV 1) (dCons (dIf (dB (dBin (fCmpI iGt) (dV 3) (dC (.int 2)))) (dC (.int 2)) (dC (.int 3))) (dNil))))) (dCons (dV 4) (dCons (dBin (fAdd false) (dV 4) (dCB F_law_draw_L (dCons (dV 1) (dCons (dC (.int 4)) (dNil))))) (dNil))))))) (dSeq (dSet 6 (dCB F_law_numbers_L (dCons (dV 5) (dNil)))) (dSeq (dIfS (bOr (dB (dBin (fEq true) (dCB F_numbers_many (dCons (dV 5) (dNil))) (dCB fLen (dCons (dV 6) (dNil))))) (dB (dBin (fEq true) (dCB F_most_of (dCons (dV 5) (dNil))) (dBin fIx (dV 6) (dUn fNeg (dC (.int 1))))))) (dRet (dC (.bl false))) (dPass)) (dSeq (dIfS (dB (dBin (fEq true) (dCB F_least_of (dCons (dV 5) (dNil))) (dBin fIx (dLc false (iSeq (dV 6)) (cNm 7) (dB (dBin (fCmpI iGt) (dBin fIx (dV 7) (dC (.int 0))) (dC (.int 0)))) (dV 7) [7]) (dC (.int 0))))) (dRet (dC (.bl false))) (dPass)) (dSeq (dFor (iRange (dCons (dC (.int 6)) (dNil))) (gNm 8) (dSeq (dSet 9 (dCB F_law_draw_L (dCons (dV 1) (dCons (dCB fLen (dCons (dV 6) (dNil))) (dNil))))) (dSeq (dSet 7 (dBin fIx (dV 6) (dV 9))) (dSeq (dIfS (dB (dBin (fEq true) (dCB F_next_up (dCons (dV 5) (dCons (dV 7) (dNil)))) (dIf (dB (dBin (fCmpI iLt) (dBin (fAdd false) (dV 9) (dC (.int 1))) (dCB fLen (dCons (dV 6) (dNil))))) (dBin fIx (dV 6) (dBin (fAdd false) (dV 9) (dC (.int 1)))) (dC .non)))) (dRet (dC (.bl false))) (dPass)) (dSeq (dIfS (dB (dBin (fEq true) (dCB F_next_down (dCons (dV 5) (dCons (dV 7) (dNil)))) (dIf (dB (dBin (fCmpI iGt) (dV 9) (dC (.int 0)))) (dBin fIx (dV 6) (dBin fSub (dV 9) (dC (.int 1)))) (dC .non)))) (dRet (dC (.bl false))) (dPass)) (dSeq (dSet 10 (dCB F_law_low_L (dCons (dBin fSub (dCB F_law_draw_L (dCons (dV 1) (dCons (dC (.int 41)) (dNil)))) (dC (.int 20))) (dCons (dBin (fAdd false) (dC (.int 1)) (dCB F_law_draw_L (dCons (dV 1) (dCons (dC (.int 9)) (dNil))))) (dNil))))) (dSeq (dSet 10 (dCB F_law_any_L (dCons (dV 1) (dCons (dLst false (dCons (dV 10) (dCons (dV 7) (dCons (dCB F_law_plus_L (dCons (dV 7) (dCons (dCB F_law_low_L (dCons (dC (.int 1)) (dCons (dBin (fMul false) (dC (.int 24)) (dBin fIx (dBin fIx (dV 6) (dUn fNeg (dC (.int 1)))) (dC (.int 1)))) (dNil)))) (dNil)))) (dNil))))) (dNil))))) (dSeq (dIfS (bOr (dB (dBin (fEq true) (dCB F_is_number_of (dCons (dV 5) (dCons (dV 10) (dNil)))) (dBin (fInD false) (dV 10) (dV 6)))) (dB (dBin (fEq true) (dCB F_gap_at (dCons (dV 5) (dCons (dV 10) (dNil)))) (dCB F_law_gap_L (dCons (dV 5) (dCons (dV 10) (dNil))))))) (dRet (dC (.bl false))) (dPass)) (dSeq (dIfS (dTru (dCB F_law_is_most_L (dCons (dCB F_law_size_L (dCons (dV 10) (dNil))) (dCons (dBin fIx (dV 6) (dUn fNeg (dC (.int 1)))) (dNil))))) (dSeq (dSet 11 (dBin fIx (dLc false (iSeq (dV 6)) (cNm 12) (dTru (dCB F_law_is_most_L (dCons (dV 12) (dCons (dV 10) (dNil))))) (dV 12) [12]) (dUn fNeg (dC (.int 1))))) (dSeq (dSet 13 (dBin fIx (dLc false (iSeq (dV 6)) (cNm 12) (dTru (dCB F_law_is_most_L (dCons (dV 10) (dCons (dV 12) (dNil))))) (dV 12) [12]) (dC (.int 0)))) (dSeq (dIfS (bOr (dB (dBin (fEq true) (dCB F_rounded (dCons (dV 5) (dCons (dC (.str ("down" : Str))) (dCons (dV 10) (dNil))))) (dV 11))) (dB (dBin (fEq true) (dCB F_rounded (dCons (dV 5) (dCons (dC (.str ("up" : Str))) (dCons (dV 10) (dNil))))) (dV 13)))) (dRet (dC (.bl false))) (dPass)) (dSeq (dIfS (bNot (dTru (dCB F_law_is_most_L (dCons (dCB F_law_less_L (dCons (dV 13) (dCons (dV 11) (dNil)))) (dCons (dCB F_off_for (dCons (dV 5) (dCons (dC (.str ("down" : Str))) (dCons (dV 10) (dNil))))) (dNil)))))) (dRet (dC (.bl false))) (dPass)) (dSeq (dIfS (dB (dBin (fEq true) (dCB F_hold_of (dCons (dV 5) (dCons (dC (.str ("up" : Str))) (dCons (dV 10) (dNil))))) (dTup (dCons (dV 10) (dCons (dV 10) (dCons (dCB F_law_less_L (dCons (dV 13) (dCons (dV 10) (dNil)))) (dNil))))))) (dRet (dC (.bl false))) (dPass)) (dIfS (dB (dBin (fIs true) (dCB F_at_most (dCons (dV 11) (dCons (dV 13) (dNil)))) (dC (.bl true)))) (dRet (dC (.bl false))) (dPass))))))) (dPass)) (dSeq (dSet 14 (dCB F_law_plus_L (dCons (dV 10) (dCons (dTup (dCons (dCB F_law_draw_L (dCons (dV 1) (dCons (dC (.int 5)) (dNil)))) (dCons (dC (.int 2)) (dNil)))) (dNil))))) (dSeq (dSet 15 (dLc false (iSeq (dV 6)) (cNm 12) (bAnd (dTru (dCB F_law_is_most_L (dCons (dV 10) (dCons (dV 12) (dNil))))) (dTru (dCB F_law_is_most_L (dCons (dV 12) (dCons (dV 14) (dNil)))))) (dV 12) [12])) (dIfS (dB (dBin (fEq true) (dCB F_numbers_from (dCons (dV 5) (dCons (dV 10) (dCons (dV 14) (dNil))))) (dCB fTuple (dCons (dV 15) (dNil))))) (dRet (dC (.bl false))) (dPass))))))))))))) (dIfS (bNot (dTru (dCB F_law_refused_right_L (dCons (dV 1) (dCons (dV 5) (dNil)))))) (dRet (dC (.bl false))) (dPass)))))))))
def lp0 : EnP → Sto → SR := (dSet 3 (dCB F_law_any_L (dCons (dV 1) (dCons (dLst false (dCons (dC (.int 2)) (dCons (dC (.int 2)) (dCons (dC (.int 3)) (dCons (dC (.int 4)) (dNil)))))) (dNil)))))
def lp1 : EnP → Sto → SR := (dSet 4 (dBin fSub (dC (.int 0)) (dCB F_law_draw_L (dCons (dV 1) (dCons (dC (.int 4)) (dNil))))))
def lp2 : EnP → Sto → SR := (dSet 5 (dTup (dCons (dV 3) (dCons (dBin (fAdd false) (dC (.int 1)) (dCB F_law_draw_L (dCons (dV 1) (dCons (dIf (dB (dBin (fCmpI iGt) (dV 3) (dC (.int 2)))) (dC (.int 2)) (dC (.int 3))) (dNil))))) (dCons (dV 4) (dCons (dBin (fAdd false) (dV 4) (dCB F_law_draw_L (dCons (dV 1) (dCons (dC (.int 4)) (dNil))))) (dNil)))))))
def lp3 : EnP → Sto → SR := (dSet 6 (dCB F_law_numbers_L (dCons (dV 5) (dNil))))
def lp4 : EnP → Sto → SR := (dIfS (bOr (dB (dBin (fEq true) (dCB F_numbers_many (dCons (dV 5) (dNil))) (dCB fLen (dCons (dV 6) (dNil))))) (dB (dBin (fEq true) (dCB F_most_of (dCons (dV 5) (dNil))) (dBin fIx (dV 6) (dUn fNeg (dC (.int 1))))))) (dRet (dC (.bl false))) (dPass))
def lp5 : EnP → Sto → SR := (dIfS (dB (dBin (fEq true) (dCB F_least_of (dCons (dV 5) (dNil))) (dBin fIx (dLc false (iSeq (dV 6)) (cNm 7) (dB (dBin (fCmpI iGt) (dBin fIx (dV 7) (dC (.int 0))) (dC (.int 0)))) (dV 7) [7]) (dC (.int 0))))) (dRet (dC (.bl false))) (dPass))
def lp7 : EnP → Sto → SR := (dIfS (bNot (dTru (dCB F_law_refused_right_L (dCons (dV 1) (dCons (dV 5) (dNil)))))) (dRet (dC (.bl false))) (dPass))
def lpP : EnP → Sto → Res PV := dLc false (iSeq (dV 6)) (cNm 7) (dB (dBin (fCmpI iGt) (dBin fIx (dV 7) (dC (.int 0))) (dC (.int 0)))) (dV 7) [7]
theorem lp_is : lp = dSeq lp0 (dSeq lp1 (dSeq lp2 (dSeq lp3 (dSeq lp4 (dSeq lp5 (dSeq (dFor (iRange (dCons (dC (.int 6)) (dNil))) (gNm 8) tn) lp7)))))) := rfl
theorem lp_P {f : Fm} {xs : List Rat} {S : Sto} {a0 a1 a2 a3 a4 a5 a7 a8 a9 a10 a11 a12 a13 a14 a15 : Option PV} (h : Row f xs) (hl : xs.length ≤ 500) :
    lpP [a0, a1, a2, a3, a4, a5, some (.nl (xs.map eQ)), a7, a8, a9, a10, a11, a12, a13, a14, a15] S = .ok (.nl ((xs.filter fun r => decide (0 < r.num)).map eQ)) S :=
  dLc_filter (α := Rat) (S := S) (di := iSeq (dV 6)) (f := cNm 7) (dt := dB (dBin (fCmpI iGt) (dBin fIx (dV 7) (dC (.int 0))) (dC (.int 0)))) (de := dV 7) (ρ := [a0, a1, a2, a3, a4, a5, some (.nl (xs.map eQ)), a7, a8, a9, a10, a11, a12, a13, a14, a15]) (vs := [7]) eQ eQ (fun r => decide (0 < r.num)) (fun _ => True) rfl
    (fun r _ => ⟨[a0, a1, a2, a3, a4, a5, some (.nl (xs.map eQ)), some (eQ r), a8, a9, a10, a11, a12, a13, a14, a15], rfl, by simp [runF, startP, endOf, dRet, dRetN, dIf, dIfS, dB, dBin, dUn, dV, dC, sE, asB, dSeq, dSet, dPar, dPar3, dAsg, dExpr, dAnd, dOr, dNot, bAnd, bOr, bNot, dTru, dCB, dCons, dNil, dTup, dLst, dChain, dPass, fCmpI, fIsN, gTp, gsCons, gsNil, gNm, mkTup, dSl, dPart, dNoPart, lim, iLt, iLe, iGt, iGe, ix_q0], rfl⟩) (fun _ _ => trivial) (by unfold lim; omega)
theorem tn_loop {f : Fm} {xs : List Rat} {a0 a2 a3 a4 : Option PV} (hf : FmS f) (h : Row f xs) (hl : xs.length ≤ 500) : ∀ (ys : List PV) (b : Int) (S : Sto) (a7 a8 a9 a10 a11 a12 a13 a14 a15 : Option PV), Hk b S → b + 5 * ys.length ≤ 970000000 →
    ∃ S' b7 b8 b9 b10 b11 b13 b14 b15, forP (gNm 8) tn ys [a0, some (.ref 0), a2, a3, a4, some (eF f), some (.nl (xs.map eQ)), a7, a8, a9, a10, a11, a12, a13, a14, a15] S = .nx [a0, some (.ref 0), a2, a3, a4, some (eF f), some (.nl (xs.map eQ)), b7, b8, b9, b10, b11, a12, b13, b14, b15] S' ∧ Hk (b + 5 * ys.length) S'
  | [], b, S, a7, a8, a9, a10, a11, a12, a13, a14, a15, hk, _ => ⟨S, a7, a8, a9, a10, a11, a13, a14, a15, rfl, by simpa using hk⟩
  | y :: ys, b, S, a7, a8, a9, a10, a11, a12, a13, a14, a15, hk, hb => by
    rw [List.length_cons] at hb
    obtain ⟨S1, c7, c9, c10, c11, c13, c14, c15, e1, k1⟩ := tn_step (a0 := a0) (a2 := a2) (a3 := a3) (a4 := a4) (a7 := a7) (a8 := some y) (a9 := a9) (a10 := a10) (a11 := a11) (a12 := a12) (a13 := a13) (a14 := a14) (a15 := a15) hk (by omega) hf h hl
    obtain ⟨S', b7, b8, b9, b10, b11, b13, b14, b15, ih, k2⟩ := tn_loop (a0 := a0) (a2 := a2) (a3 := a3) (a4 := a4) hf h hl ys (b + 5) S1 c7 (some y) c9 c10 c11 a12 c13 c14 c15 k1 (by omega)
    refine ⟨S', b7, b8, b9, b10, b11, b13, b14, b15, ?_, k2.mono (by rw [List.length_cons]; omega)⟩
    rw [forP]
    have g : gNm 8 y [a0, some (.ref 0), a2, a3, a4, some (eF f), some (.nl (xs.map eQ)), a7, a8, a9, a10, a11, a12, a13, a14, a15] S = .ok [a0, some (.ref 0), a2, a3, a4, some (eF f), some (.nl (xs.map eQ)), a7, some y, a9, a10, a11, a12, a13, a14, a15] S := rfl
    rw [g]
    simp only [sE, e1]
    exact ih
theorem lp_step {b : Int} {S : Sto} {a0 a2 a3 a4 a5 a6 a7 a8 a9 a10 a11 a12 a13 a14 a15 : Option PV} (hk : Hk b S) (hb : b ≤ 900000000) :
    ∃ S' b3 b4 b5 b6 b7 b8 b9 b10 b11 b13 b14 b15, lp [a0, some (.ref 0), a2, a3, a4, a5, a6, a7, a8, a9, a10, a11, a12, a13, a14, a15] S = .nx [a0, some (.ref 0), a2, b3, b4, b5, b6, b7, b8, b9, b10, b11, a12, b13, b14, b15] S' ∧ Hk (b + 50) S' := by
  obtain ⟨y, hy, S1, e1, k1⟩ := e_any (xs := [.int 2, .int 2, .int 3, .int 4]) hk (by omega) (by decide) (by decide)
  have hy' : ∃ bb : Nat, y = .int (bb : Int) ∧ (bb = 2 ∨ bb = 3 ∨ bb = 4) := by
    simp at hy
    rcases hy with rfl | rfl | rfl
    · exact ⟨2, rfl, by omega⟩
    · exact ⟨3, rfl, by omega⟩
    · exact ⟨4, rfl, by omega⟩
  obtain ⟨bb, rfl, hbb⟩ := hy'
  obtain ⟨d1, S2, e2, p0, p1, k2⟩ := e_draw (k := 4) k1 (by omega) (by omega) (by omega)
  obtain ⟨c, hc, hc2, hi⟩ : ∃ c : Int, (c = 2 ∨ c = 3) ∧ (2 < bb → c = 2) ∧ ∀ S, (if (2 : Int) < (bb : Int) then Res.ok (PV.int 2) S else Res.ok (PV.int 3) S) = .ok (.int c) S := by
    by_cases q : (2 : Int) < (bb : Int)
    · exact ⟨2, .inl rfl, fun _ => rfl, fun S => by rw [if_pos q]⟩
    · exact ⟨3, .inr rfl, fun z => by omega, fun S => by rw [if_neg q]⟩
  obtain ⟨d2, S3, e3, q0, q1, k3⟩ := e_draw (k := c) k2 (by omega) (by omega) (by omega)
  obtain ⟨d3, S4, e4, r0, r1, k4⟩ := e_draw (k := 4) k3 (by omega) (by omega) (by omega)
  have h4 : Fm4 ⟨bb, 1 + d2, 0 - d1, 0 - d1 + d3⟩ := by
    refine ⟨⟨by show bb = 2 ∨ bb = 3 ∨ bb = 4 ∨ bb = 10; omega, by show 1 ≤ 1 + d2; omega, by show 1 + d2 ≤ 3; omega, fun z => by have z : 4 ≤ bb := z; have := hc2 (by omega); show 1 + d2 ≤ 2; omega, by show -3 ≤ 0 - d1; omega, by show 0 - d1 ≤ 3; omega, by show 0 - d1 ≤ 0 - d1 + d3; omega, by show 0 - d1 + d3 ≤ 3; omega⟩, by show 0 - d1 ≤ 0; omega, by show 0 - d1 + d3 - (0 - d1) ≤ 3; omega, ?_⟩
    show bb ^ (1 + d2).toNat ≤ 16
    rcases hbb with rfl | rfl | rfl
    · exact Nat.le_trans (Nat.pow_le_pow_right (by decide) (show (1 + d2).toNat ≤ 3 by omega)) (by decide)
    · have := hc2 (by decide)
      exact Nat.le_trans (Nat.pow_le_pow_right (by decide) (show (1 + d2).toNat ≤ 2 by omega)) (by decide)
    · have := hc2 (by decide)
      exact Nat.le_trans (Nat.pow_le_pow_right (by decide) (show (1 + d2).toNat ≤ 2 by omega)) (by decide)
  generalize hf0 : (⟨bb, 1 + d2, 0 - d1, 0 - d1 + d3⟩ : Fm) = f at h4
  have fe : PV.tup [.int (bb : Int), .int (1 + d2), .int (0 - d1), .int (0 - d1 + d3)] = eF f := by rw [← hf0]; rfl
  have hs := FmT.s h4.t
  obtain ⟨xs, l, e5, h, hl⟩ := l_numbers hs h4.lo S4
  have h5 := row_500 h4 h
  have k5 := k4.more l
  generalize hS5 : S4 ++ l = S5 at e5 k5
  have nm := fun S => e_many_is (S := S) hs h (by have := h4.t.k1; omega)
  have len := fun S => len_row xs S
  have mo := fun S => e_most_fm (S := S) hs.ok
  have gm := fun S => ix_last (S := S) (h.last hs.ok)
  have qs : ∀ q S, fEq true (eQ q) (eQ q) S = .ok (.bl false) S := fun q S => by rw [eq_q]; simp
  have qi : ∀ S, fEq true (.int (xs.length : Int)) (.int (xs.length : Int)) S = .ok (.bl false) S := fun S => by rw [w_eq]; simp
  have lf := fun S => e_least_fm (S := S) hs.ok
  have pp := pw_pos (b_pos hs.ok) f.lo
  have hm := head_min (p := fun r => decide (0 < r.num)) h.so ((h.mem _).mpr (least_num hs.ok)) (by simpa using num_pos.mpr pp) fun r hr z => least_le hs.ok ((h.mem r).mp hr) (num_pos.mp (by simpa using z))
  have g0 := fun S => ix_head (S := S) hm
  have lP := fun S => lp_P (S := S) (a0 := a0) (a1 := some (.ref 0)) (a2 := a2) (a3 := some (.int (bb : Int))) (a4 := some (.int (0 - d1))) (a5 := some (eF f)) (a7 := a7) (a8 := a8) (a9 := a9) (a10 := a10) (a11 := a11) (a12 := a12) (a13 := a13) (a14 := a14) (a15 := a15) h h5
  obtain ⟨S6, b7, b8, b9, b10, b11, b13, b14, b15, ht, k6⟩ := tn_loop (a0 := a0) (a2 := a2) (a3 := some (.int (bb : Int))) (a4 := some (.int (0 - d1))) hs h h5 (Mi.upTo 0 6) _ S5 a7 a8 a9 a10 a11 a12 a13 a14 a15 k5 (by unfold Mi.upTo; simp; omega)
  have k6 : Hk (b + 1 + 1 + 1 + 1 + 30) S6 := k6.mono (by unfold Mi.upTo; simp)
  obtain ⟨S7, e7, k7⟩ := l_refused k6 (by omega) hs
  refine ⟨S7, some (.int (bb : Int)), some (.int (0 - d1)), some (eF f), some (.nl (xs.map eQ)), b7, b8, b9, b10, b11, b13, b14, b15, ?_, k7.mono (by omega)⟩
  have t0 : lp0 [a0, some (.ref 0), a2, a3, a4, a5, a6, a7, a8, a9, a10, a11, a12, a13, a14, a15] S = .nx [a0, some (.ref 0), a2, some (.int (bb : Int)), a4, a5, a6, a7, a8, a9, a10, a11, a12, a13, a14, a15] S1 := by
    simp [lp0, runF, startP, endOf, dRet, dRetN, dIf, dIfS, dB, dBin, dUn, dV, dC, sE, asB, dSeq, dSet, dPar, dPar3, dAsg, dExpr, dAnd, dOr, dNot, bAnd, bOr, bNot, dTru, dCB, dCons, dNil, dTup, dLst, dChain, dPass, fCmpI, fIsN, gTp, gsCons, gsNil, gNm, mkTup, dSl, dPart, dNoPart, lim, iLt, iLe, iGt, iGe, mkLst, e1]
  have t1 : lp1 [a0, some (.ref 0), a2, some (.int (bb : Int)), a4, a5, a6, a7, a8, a9, a10, a11, a12, a13, a14, a15] S1 = .nx [a0, some (.ref 0), a2, some (.int (bb : Int)), some (.int (0 - d1)), a5, a6, a7, a8, a9, a10, a11, a12, a13, a14, a15] S2 := by
    simp only [lp1, dSet, dBin, dC, Res.bind_ok, dCB, dCons, dNil, dV, List.getElem?_cons_succ, List.getElem?_cons_zero, e2, w_sub, sE]
    rfl
  have t2 : lp2 [a0, some (.ref 0), a2, some (.int (bb : Int)), some (.int (0 - d1)), a5, a6, a7, a8, a9, a10, a11, a12, a13, a14, a15] S2 = .nx [a0, some (.ref 0), a2, some (.int (bb : Int)), some (.int (0 - d1)), some (eF f), a6, a7, a8, a9, a10, a11, a12, a13, a14, a15] S4 := by
    generalize hz : 0 - d1 = z at *
    rw [← fe]
    by_cases q : (2 : Int) < (bb : Int)
    · have hi' := hi S2
      rw [if_pos q] at hi'
      injection hi' with hi' _
      injection hi' with hi'
      subst hi'
      simp [lp2, runF, startP, endOf, dRet, dRetN, dIf, dIfS, dB, dBin, dUn, dV, dC, sE, asB, dSeq, dSet, dPar, dPar3, dAsg, dExpr, dAnd, dOr, dNot, bAnd, bOr, bNot, dTru, dCB, dCons, dNil, dTup, dLst, dChain, dPass, fCmpI, fIsN, gTp, gsCons, gsNil, gNm, mkTup, dSl, dPart, dNoPart, lim, iLt, iLe, iGt, iGe, q, e3, e4, w_add]
    · have hi' := hi S2
      rw [if_neg q] at hi'
      injection hi' with hi' _
      injection hi' with hi'
      subst hi'
      simp [lp2, runF, startP, endOf, dRet, dRetN, dIf, dIfS, dB, dBin, dUn, dV, dC, sE, asB, dSeq, dSet, dPar, dPar3, dAsg, dExpr, dAnd, dOr, dNot, bAnd, bOr, bNot, dTru, dCB, dCons, dNil, dTup, dLst, dChain, dPass, fCmpI, fIsN, gTp, gsCons, gsNil, gNm, mkTup, dSl, dPart, dNoPart, lim, iLt, iLe, iGt, iGe, q, e3, e4, w_add]
  have t3 : lp3 [a0, some (.ref 0), a2, some (.int (bb : Int)), some (.int (0 - d1)), some (eF f), a6, a7, a8, a9, a10, a11, a12, a13, a14, a15] S4 = .nx [a0, some (.ref 0), a2, some (.int (bb : Int)), some (.int (0 - d1)), some (eF f), some (.nl (xs.map eQ)), a7, a8, a9, a10, a11, a12, a13, a14, a15] S5 := by
    generalize 0 - d1 = z at *
    simp [lp3, runF, startP, endOf, dRet, dRetN, dIf, dIfS, dB, dBin, dUn, dV, dC, sE, asB, dSeq, dSet, dPar, dPar3, dAsg, dExpr, dAnd, dOr, dNot, bAnd, bOr, bNot, dTru, dCB, dCons, dNil, dTup, dLst, dChain, dPass, fCmpI, fIsN, gTp, gsCons, gsNil, gNm, mkTup, dSl, dPart, dNoPart, lim, iLt, iLe, iGt, iGe, e5]
  have t4 : lp4 [a0, some (.ref 0), a2, some (.int (bb : Int)), some (.int (0 - d1)), some (eF f), some (.nl (xs.map eQ)), a7, a8, a9, a10, a11, a12, a13, a14, a15] S5 = .nx [a0, some (.ref 0), a2, some (.int (bb : Int)), some (.int (0 - d1)), some (eF f), some (.nl (xs.map eQ)), a7, a8, a9, a10, a11, a12, a13, a14, a15] S5 := by
    generalize 0 - d1 = z at *
    generalize xs.map eQ = XL at *
    simp [lp4, runF, startP, endOf, dRet, dRetN, dIf, dIfS, dB, dBin, dUn, dV, dC, sE, asB, dSeq, dSet, dPar, dPar3, dAsg, dExpr, dAnd, dOr, dNot, bAnd, bOr, bNot, dTru, dCB, dCons, dNil, dTup, dLst, dChain, dPass, fCmpI, fIsN, gTp, gsCons, gsNil, gNm, mkTup, dSl, dPart, dNoPart, lim, iLt, iLe, iGt, iGe, nm, len, qi, mo, gm, w_neg, qs]
  have t5 : lp5 [a0, some (.ref 0), a2, some (.int (bb : Int)), some (.int (0 - d1)), some (eF f), some (.nl (xs.map eQ)), a7, a8, a9, a10, a11, a12, a13, a14, a15] S5 = .nx [a0, some (.ref 0), a2, some (.int (bb : Int)), some (.int (0 - d1)), some (eF f), some (.nl (xs.map eQ)), a7, a8, a9, a10, a11, a12, a13, a14, a15] S5 := by
    have d5 : lp5 = dIfS (dB (dBin (fEq true) (dCB F_least_of (dCons (dV 5) (dNil))) (dBin fIx lpP (dC (.int 0))))) (dRet (dC (.bl false))) (dPass) := rfl
    rw [d5]
    generalize 0 - d1 = z at *
    generalize (xs.filter fun r => decide (0 < r.num)).map eQ = FL at *
    simp [runF, startP, endOf, dRet, dRetN, dIf, dIfS, dB, dBin, dUn, dV, dC, sE, asB, dSeq, dSet, dPar, dPar3, dAsg, dExpr, dAnd, dOr, dNot, bAnd, bOr, bNot, dTru, dCB, dCons, dNil, dTup, dLst, dChain, dPass, fCmpI, fIsN, gTp, gsCons, gsNil, gNm, mkTup, dSl, dPart, dNoPart, lim, iLt, iLe, iGt, iGe, lf, lP, g0, qs]
  have t6 : ∀ D, dFor (iRange (dCons (dC (.int 6)) (dNil))) (gNm 8) tn D S5 = forP (gNm 8) tn (Mi.upTo 0 6) D S5 := fun D => rfl
  have t7 : lp7 [a0, some (.ref 0), a2, some (.int (bb : Int)), some (.int (0 - d1)), some (eF f), some (.nl (xs.map eQ)), b7, b8, b9, b10, b11, a12, b13, b14, b15] S6 = .nx [a0, some (.ref 0), a2, some (.int (bb : Int)), some (.int (0 - d1)), some (eF f), some (.nl (xs.map eQ)), b7, b8, b9, b10, b11, a12, b13, b14, b15] S7 := by
    generalize 0 - d1 = z at *
    simp [lp7, runF, startP, endOf, dRet, dRetN, dIf, dIfS, dB, dBin, dUn, dV, dC, sE, asB, dSeq, dSet, dPar, dPar3, dAsg, dExpr, dAnd, dOr, dNot, bAnd, bOr, bNot, dTru, dCB, dCons, dNil, dTup, dLst, dChain, dPass, fCmpI, fIsN, gTp, gsCons, gsNil, gNm, mkTup, dSl, dPart, dNoPart, lim, iLt, iLe, iGt, iGe, e7, truP]
  rw [lp_is]
  simp only [dSeq, t0, t1, t2, t3, t4, t5, t6, ht, t7]
theorem lp_loop {a0 : Option PV} : ∀ (ys : List PV) (b : Int) (S : Sto) (a2 a3 a4 a5 a6 a7 a8 a9 a10 a11 a12 a13 a14 a15 : Option PV), Hk b S → b + 50 * ys.length ≤ 900000000 → ∃ S' b2 b3 b4 b5 b6 b7 b8 b9 b10 b11 b13 b14 b15, forP (gNm 2) lp ys [a0, some (.ref 0), a2, a3, a4, a5, a6, a7, a8, a9, a10, a11, a12, a13, a14, a15] S = .nx [a0, some (.ref 0), b2, b3, b4, b5, b6, b7, b8, b9, b10, b11, a12, b13, b14, b15] S'
  | [], b, S, a2, a3, a4, a5, a6, a7, a8, a9, a10, a11, a12, a13, a14, a15, _, _ => ⟨S, a2, a3, a4, a5, a6, a7, a8, a9, a10, a11, a13, a14, a15, rfl⟩
  | y :: ys, b, S, a2, a3, a4, a5, a6, a7, a8, a9, a10, a11, a12, a13, a14, a15, hk, hb => by
    rw [List.length_cons] at hb
    obtain ⟨S1, c3, c4, c5, c6, c7, c8, c9, c10, c11, c13, c14, c15, e1, k1⟩ := lp_step (a0 := a0) (a2 := some y) (a3 := a3) (a4 := a4) (a5 := a5) (a6 := a6) (a7 := a7) (a8 := a8) (a9 := a9) (a10 := a10) (a11 := a11) (a12 := a12) (a13 := a13) (a14 := a14) (a15 := a15) hk (by omega)
    obtain ⟨S', b2, b3, b4, b5, b6, b7, b8, b9, b10, b11, b13, b14, b15, ih⟩ := lp_loop (a0 := a0) ys (b + 50) S1 (some y) c3 c4 c5 c6 c7 c8 c9 c10 c11 a12 c13 c14 c15 k1 (by omega)
    refine ⟨S', b2, b3, b4, b5, b6, b7, b8, b9, b10, b11, b13, b14, b15, ?_⟩
    rw [forP]
    have g : gNm 2 y [a0, some (.ref 0), a2, a3, a4, a5, a6, a7, a8, a9, a10, a11, a12, a13, a14, a15] S = .ok [a0, some (.ref 0), some y, a3, a4, a5, a6, a7, a8, a9, a10, a11, a12, a13, a14, a15] S := rfl
    rw [g]
    simp only [sE, e1]
    exact ih
end G04
end
section
set_option Elab.async false
set_option linter.all false
set_option maxRecDepth 100000
set_option maxHeartbeats 1000000
set_option exponentiation.threshold 5000
namespace G04
open PySem PySem.Spec PyProof.Rows L2 Mi Ra
theorem x1 (S : Sto) : F_fraction [.int 6, .int (-4)] S = .ok (.tup [.int (-3), .int 2]) S := by kernel_rfl
theorem x2 (S : Sto) : F_numbers_many [.tup [.int 2, .int 2, .int 0, .int 1]] S = .ok (.int 11) S := by kernel_rfl
abbrev five : PV := .tup [.tup [.int 1, .int 1], .tup [.int 2, .int 1], .tup [.int 3, .int 1], .tup [.int 4, .int 1], .tup [.int 6, .int 1]]
theorem x3 : F_numbers_from [.tup [.int 2, .int 2, .int 0, .int 1], .tup [.int 1, .int 1], .tup [.int 6, .int 1]] [] = .ok five [SO.lst [.tup [.int 1, .int 1], .tup [.int 2, .int 1], .tup [.int 3, .int 1], .tup [.int 4, .int 1], .tup [.int 6, .int 1]]] := by kernel_rfl
theorem x4 (S : Sto) : ∃ l, F_numbers_from [.tup [.int 2, .int 2, .int 0, .int 1], .tup [.int 1, .int 1], .tup [.int 6, .int 1]] S = .ok five (S ++ l) := by
  have ht : FmT ⟨2, 2, 0, 1⟩ := ⟨by decide, by decide, by decide, by decide, by decide, by decide, by decide, by decide⟩
  have hs := FmT.s ht
  obtain ⟨xs, _, _, h, _⟩ := l_numbers hs (by decide) []
  have o1 : Ok (1 : Rat) := ⟨by decide +kernel, by decide +kernel⟩
  have o6 : Ok (6 : Rat) := ⟨by decide +kernel, by decide +kernel⟩
  have ct := h.count hs.ok
  have ct : xs.length = 11 := ct
  have cnt : (btw 1 6 xs).length ≤ 500 := Nat.le_trans (List.length_filter_le _ _) (by omega)
  have e1 : eQ 1 = .tup [.int 1, .int 1] := by kernel_rfl
  have e6 : eQ 6 = .tup [.int 6, .int 1] := by kernel_rfl
  have ef : eF ⟨2, 2, 0, 1⟩ = .tup [.int 2, .int 2, .int 0, .int 1] := rfl
  obtain ⟨l0, h0⟩ := e_from hs h o1 o6 (by decide +kernel) cnt []
  obtain ⟨l, hS⟩ := e_from hs h o1 o6 (by decide +kernel) cnt S
  rw [e1, e6, ef] at h0 hS
  rw [x3] at h0
  have q : five = PV.tup ((btw 1 6 xs).map eQ) := by injection h0
  exact ⟨l, by rw [hS, q]⟩
theorem law_true : ∀ ns : List Int, ns.length ≤ 63 → (∀ z ∈ ns, PySem.Builtin.Int.intBits z ≤ 1048576) → ∃ S1, F_law [.fl (ns.map .int)] [] = .ok (.bl true) S1 := fun ns hl hbt => by
  obtain ⟨S0, e0, k0⟩ := e_hand hl hbt
  obtain ⟨S1, b2, b3, b4, b5, b6, b7, b8, b9, b10, b11, b13, b14, b15, hl4⟩ := lp_loop (a0 := some (.fl (ns.map .int))) (Mi.upTo 0 4) 0 S0 none none none none none none none none none none none none none none k0 (by decide)
  obtain ⟨l, h4⟩ := x4 S1
  refine ⟨S1 ++ l, ?_⟩
  have fl : ∀ D, dFor (iRange (dCons (dC (.int 4)) (dNil))) (gNm 2) lp D S0 = forP (gNm 2) lp (Mi.upTo 0 4) D S0 := fun D => rfl
  have q1 : ∀ S, fEq true (.tup [.int (-3), .int 2]) (.tup [.int (-3), .int 2]) S = .ok (.bl false) S := fun S => by kernel_rfl
  have q2 : ∀ S, fEq true (.int 11) (.int 11) S = .ok (.bl false) S := fun S => by rw [w_eq]; rfl
  have q3 : ∀ S, fEq false five five S = .ok (.bl true) S := fun S => by kernel_rfl
  have dd : d_law = dSeq (dSet 1 (dCB F_law_hand_L (dCons (dV 0) (dNil)))) (dSeq (dFor (iRange (dCons (dC (.int 4)) (dNil))) (gNm 2) lp) (dSeq (dIfS (bOr (dB (dBin (fEq true) (dCB F_fraction (dCons (dC (.int 6)) (dCons (dUn fNeg (dC (.int 4))) (dNil)))) (dTup (dCons (dUn fNeg (dC (.int 3))) (dCons (dC (.int 2)) (dNil)))))) (dB (dBin (fEq true) (dCB F_numbers_many (dCons (dTup (dCons (dC (.int 2)) (dCons (dC (.int 2)) (dCons (dC (.int 0)) (dCons (dC (.int 1)) (dNil)))))) (dNil))) (dC (.int 11))))) (dRet (dC (.bl false))) (dPass)) (dRet (dBin (fEq false) (dCB F_numbers_from (dCons (dTup (dCons (dC (.int 2)) (dCons (dC (.int 2)) (dCons (dC (.int 0)) (dCons (dC (.int 1)) (dNil)))))) (dCons (dTup (dCons (dC (.int 1)) (dCons (dC (.int 1)) (dNil)))) (dCons (dTup (dCons (dC (.int 6)) (dCons (dC (.int 1)) (dNil)))) (dNil))))) (dTup (dCons (dTup (dCons (dC (.int 1)) (dCons (dC (.int 1)) (dNil)))) (dCons (dTup (dCons (dC (.int 2)) (dCons (dC (.int 1)) (dNil)))) (dCons (dTup (dCons (dC (.int 3)) (dCons (dC (.int 1)) (dNil)))) (dCons (dTup (dCons (dC (.int 4)) (dCons (dC (.int 1)) (dNil)))) (dCons (dTup (dCons (dC (.int 6)) (dCons (dC (.int 1)) (dNil)))) (dNil))))))))))) := rfl
  have t0 : (dSet 1 (dCB F_law_hand_L (dCons (dV 0) (dNil)))) [some (.fl (ns.map .int)), none, none, none, none, none, none, none, none, none, none, none, none, none, none, none] [] = .nx [some (.fl (ns.map .int)), some (.ref 0), none, none, none, none, none, none, none, none, none, none, none, none, none, none] S0 := by simp [runF, startP, endOf, dRet, dRetN, dIf, dIfS, dB, dBin, dUn, dV, dC, sE, asB, dSeq, dSet, dPar, dPar3, dAsg, dExpr, dAnd, dOr, dNot, bAnd, bOr, bNot, dTru, dCB, dCons, dNil, dTup, dLst, dChain, dPass, fCmpI, fIsN, gTp, gsCons, gsNil, gNm, mkTup, dSl, dPart, dNoPart, lim, iLt, iLe, iGt, iGe, e0]
  have t2 : ∀ D, (dIfS (bOr (dB (dBin (fEq true) (dCB F_fraction (dCons (dC (.int 6)) (dCons (dUn fNeg (dC (.int 4))) (dNil)))) (dTup (dCons (dUn fNeg (dC (.int 3))) (dCons (dC (.int 2)) (dNil)))))) (dB (dBin (fEq true) (dCB F_numbers_many (dCons (dTup (dCons (dC (.int 2)) (dCons (dC (.int 2)) (dCons (dC (.int 0)) (dCons (dC (.int 1)) (dNil)))))) (dNil))) (dC (.int 11))))) (dRet (dC (.bl false))) (dPass)) D S1 = .nx D S1 := fun D => by simp [runF, startP, endOf, dRet, dRetN, dIf, dIfS, dB, dBin, dUn, dV, dC, sE, asB, dSeq, dSet, dPar, dPar3, dAsg, dExpr, dAnd, dOr, dNot, bAnd, bOr, bNot, dTru, dCB, dCons, dNil, dTup, dLst, dChain, dPass, fCmpI, fIsN, gTp, gsCons, gsNil, gNm, mkTup, dSl, dPart, dNoPart, lim, iLt, iLe, iGt, iGe, w_neg, x1, x2, q1, q2]
  have t3 : ∀ D, (dRet (dBin (fEq false) (dCB F_numbers_from (dCons (dTup (dCons (dC (.int 2)) (dCons (dC (.int 2)) (dCons (dC (.int 0)) (dCons (dC (.int 1)) (dNil)))))) (dCons (dTup (dCons (dC (.int 1)) (dCons (dC (.int 1)) (dNil)))) (dCons (dTup (dCons (dC (.int 6)) (dCons (dC (.int 1)) (dNil)))) (dNil))))) (dTup (dCons (dTup (dCons (dC (.int 1)) (dCons (dC (.int 1)) (dNil)))) (dCons (dTup (dCons (dC (.int 2)) (dCons (dC (.int 1)) (dNil)))) (dCons (dTup (dCons (dC (.int 3)) (dCons (dC (.int 1)) (dNil)))) (dCons (dTup (dCons (dC (.int 4)) (dCons (dC (.int 1)) (dNil)))) (dCons (dTup (dCons (dC (.int 6)) (dCons (dC (.int 1)) (dNil)))) (dNil))))))))) D S1 = .rt (.bl true) (S1 ++ l) := fun D => by simp [runF, startP, endOf, dRet, dRetN, dIf, dIfS, dB, dBin, dUn, dV, dC, sE, asB, dSeq, dSet, dPar, dPar3, dAsg, dExpr, dAnd, dOr, dNot, bAnd, bOr, bNot, dTru, dCB, dCons, dNil, dTup, dLst, dChain, dPass, fCmpI, fIsN, gTp, gsCons, gsNil, gNm, mkTup, dSl, dPart, dNoPart, lim, iLt, iLe, iGt, iGe, h4, q3]
  show endOf (d_law [some (.fl (ns.map .int)), none, none, none, none, none, none, none, none, none, none, none, none, none, none, none] []) = _
  rw [dd]
  simp only [dSeq, t0, fl, hl4, t2, t3]
  rfl
end G04
end
section
set_option Elab.async false
set_option linter.all false
set_option maxRecDepth 100000
open PySem PySem.W PyProof.Rows Mi
set_option maxHeartbeats 0
open_top hd04 for PySem.Challenge.rw_roundwarrant_k04_whole_gaps_next_ones_an
abbrev G04.cs : List Lt := ([⟨497, 493, "_law_refused_right.<locals>.<lambda>"⟩] : List Lt)
abbrev G04.eA : List (Str × Addr) := [("RoundError", 24), ("NoFraction", 37), ("NoStretch", 49), ("NoFormat", 61), ("NoWay", 73), ("NoNumberOf", 85), ("TooMany", 104)]
theorem G04.top_ok {w : World} {mg : Str → Option Value} {fa : Addr} {h : Heap} {p0 : Program} (KX : (hd04.heap_39 w.params).In h) (G : h.Ns mainGlobals mg) (XX : PySem.W.XL p0 [("FIFTY", PySem.W.WData.int 100000000000000000000000000000000000000000000000000)] mg h) (hT : ∀ c ∈ G04.cs, h.get? c.tab = some T0) (hmg : mg "law" = some (.ref fa))
    (math : ∀ ns : List Int, ns.length ≤ 63 → (∀ z ∈ ns, Builtin.Int.intBits z ≤ 1048576) → ∃ S1, G04.F_law [.fl (ns.map .int)] [] = .ok (.bl true) S1) :
    ∃ (cs : List Lt) (Ff : List PV → Sto → Res PV), (∀ c ∈ cs, h.get? c.tab = some T0) ∧ (∀ c ∈ cs, (hd04.heap_39 w.params).lookup c.tab = none) ∧ (∀ c ∈ cs, PySem.W.CodeHd h c.code c.tab) ∧
      (∀ base : Heap, (hd04.heap_39 w.params).In base → base.Ns mainGlobals mg → (∀ c ∈ cs, LamX.TabB base mg c.code c.tab) → FA ⟨PySem.Challenge.rw_roundwarrant_k04_whole_gaps_next_ones_an.prog, w, (hd04.heap_39 w.params), mg, base, tabOf cs⟩ 24 fa Ff) ∧
      ∀ ns : List Int, ns.length ≤ 63 → (∀ z ∈ ns, Builtin.Int.intBits z ≤ 1048576) → ∃ S1, Ff [.fl (ns.map .int)] [] = .ok (.bl true) S1 := by
  refine ⟨G04.cs, G04.F_law, hT, fun c hc => ?_, fun c hc => ?_, fun base KB GB TB => ?_, math⟩
  · simp only [List.mem_cons, List.not_mem_nil, or_false] at hc
    rcases hc with rfl
    · first | kernel_rfl | rfl
  · simp only [List.mem_cons, List.not_mem_nil, or_false] at hc
    rcases hc with rfl
    · exact PySem.W.codeHd_of_K KX (by first | kernel_rfl | rfl)
  · have B : Bi mg := by
      refine bi_mk KX G ?_
      first | kernel_rfl | rfl
    have ER : ErrAll (hd04.heap_39 w.params) mg G04.eA G04.isP 24 (["TooMany"] : List Str) := errs_mk (["TooMany"] : List Str) KX G (by first | kernel_rfl | rfl) (by decide +kernel)
    have e_RoundError : EC (hd04.heap_39 w.params) mg "RoundError" := ER.ec ("RoundError", 24) (by simp) (by decide +kernel)
    have e_NoFraction : EC (hd04.heap_39 w.params) mg "NoFraction" := ER.ec ("NoFraction", 37) (by simp) (by decide +kernel)
    have e_NoStretch : EC (hd04.heap_39 w.params) mg "NoStretch" := ER.ec ("NoStretch", 49) (by simp) (by decide +kernel)
    have e_NoFormat : EC (hd04.heap_39 w.params) mg "NoFormat" := ER.ec ("NoFormat", 61) (by simp) (by decide +kernel)
    have e_NoWay : EC (hd04.heap_39 w.params) mg "NoWay" := ER.ec ("NoWay", 73) (by simp) (by decide +kernel)
    have e_NoNumberOf : EC (hd04.heap_39 w.params) mg "NoNumberOf" := ER.ec ("NoNumberOf", 85) (by simp) (by decide +kernel)
    have ox_TooMany : L2.OexC (hd04.heap_39 w.params) 104 := by
      refine' oex_mk ?qq9 ?qq10 ?qq11 ?qq12 ?qq13 ?qq14
      (case qq9 => first | k_is | kernel_rfl | rfl | decide +kernel)
      (case qq10 => first | k_is | kernel_rfl | rfl | decide +kernel)
      (case qq11 => first | k_is | kernel_rfl | rfl | decide +kernel)
      (case qq12 => first | k_is | kernel_rfl | rfl | decide +kernel)
      (case qq13 => first | k_is | kernel_rfl | rfl | decide +kernel)
      (case qq14 => first | k_is | kernel_rfl | rfl | decide +kernel)
    have e_TooMany : EF1 (hd04.heap_39 w.params) mg "TooMany" "most" := by
      refine' ef_mk KX G ?qq1 ox_TooMany ?qq2 ?qq3 ?qq4 ?qq5 ?qq6 ⟨?a1, ?a2, ?a3, ?a4, ?a5, ?a6, ?a7⟩ ?b1 ?b2 ?v1 ?v2 ?hb
      (case qq1 => first | k_is | kernel_rfl | rfl)
      (case qq2 => first | k_is | kernel_rfl | rfl)
      (case qq3 => first | k_is | kernel_rfl | rfl)
      (case qq4 => first | k_is | kernel_rfl | rfl)
      (case qq5 => first | k_is | kernel_rfl | rfl)
      (case qq6 => first | k_is | kernel_rfl | rfl)
      (case a1 => first | rfl | decide +kernel)
      (case a2 => first | rfl | decide +kernel)
      (case a3 => first | rfl | decide +kernel)
      (case a4 => first | rfl | decide +kernel)
      (case a5 => first | rfl | decide +kernel)
      (case a6 => first | rfl | decide +kernel)
      (case a7 => first | rfl | decide +kernel)
      (case b1 => first | rfl | decide +kernel)
      (case b2 => first | rfl | decide +kernel)
      (case v1 => first | exact Or.inl rfl | exact Or.inr (Or.inl rfl) | exact Or.inr (Or.inr rfl))
      (case v2 => first | exact Or.inl rfl | exact Or.inr (Or.inl rfl) | exact Or.inr (Or.inr rfl))
      (case hb => intro us hl; match us, hl with | [_, _], _ => rfl)
    have hCR : mg "RoundError" = some (.ref 24) := ER.at_.at_ ("RoundError", 24) (by simp)
    have h_FIFTY : ∃ t, mg "FIFTY" = some (.int G04.c_FIFTY t) := loose_mk XX (by simp)
    have h_MOST_TURNS : ∃ t, mg "MOST_TURNS" = some (.int G04.c_MOST_TURNS t) := by
      refine' int_mk KX G ?qq15
      (case qq15 => k_is)
    have h_MOST_BASE : ∃ t, mg "MOST_BASE" = some (.int G04.c_MOST_BASE t) := by
      refine' int_mk KX G ?qq16
      (case qq16 => k_is)
    have h_MOST_FIGURES : ∃ t, mg "MOST_FIGURES" = some (.int G04.c_MOST_FIGURES t) := by
      refine' int_mk KX G ?qq17
      (case qq17 => k_is)
    have h_MOST_EXPONENT : ∃ t, mg "MOST_EXPONENT" = some (.int G04.c_MOST_EXPONENT t) := by
      refine' int_mk KX G ?qq18
      (case qq18 => k_is)
    have h_MOST_DIGITS : ∃ t, mg "MOST_DIGITS" = some (.int G04.c_MOST_DIGITS t) := by
      refine' int_mk KX G ?qq19
      (case qq19 => k_is)
    have h_MOST_LISTED : ∃ t, mg "MOST_LISTED" = some (.int G04.c_MOST_LISTED t) := by
      refine' int_mk KX G ?qq20
      (case qq20 => k_is)
    have h_MOST_COUNTED : ∃ t, mg "MOST_COUNTED" = some (.int G04.c_MOST_COUNTED t) := by
      refine' int_mk KX G ?qq21
      (case qq21 => k_is)
    have h_NEAR : ∃ t, mg "NEAR" = some (.str G04.c_NEAR t) := by
      refine' str_mk KX G ?qq22
      (case qq22 => k_is)
    have h_DOWN : ∃ t, mg "DOWN" = some (.str G04.c_DOWN t) := by
      refine' str_mk KX G ?qq23
      (case qq23 => k_is)
    have h_UP : ∃ t, mg "UP" = some (.str G04.c_UP t) := by
      refine' str_mk KX G ?qq24
      (case qq24 => k_is)
    have h_TO_ZERO : ∃ t, mg "TO_ZERO" = some (.str G04.c_TO_ZERO t) := by
      refine' str_mk KX G ?qq25
      (case qq25 => k_is)
    have h_WAYS : ∃ v, mg "WAYS" = some v ∧ Cst (hd04.heap_39 w.params) G04.c_WAYS v := by
      refine' cst_mk KX G ?qq26 ?qq27
      (case qq26 => k_is)
      (case qq27 => first | kernel_rfl | rfl)
    have h_LONGEST : ∃ t, mg "LONGEST" = some (.int G04.c_LONGEST t) := by
      refine' int_mk KX G ?qq28
      (case qq28 => k_is)
    have D_is_integer : DefOk ⟨PySem.Challenge.rw_roundwarrant_k04_whole_gaps_next_ones_an.prog, w, (hd04.heap_39 w.params), mg, base, tabOf G04.cs⟩ "is_integer" G04.s_is_integer := by
      refine' def_mk KX G ?qq29 ?qq30 ?qq31 ?qq32
      (case qq29 => k_is)
      (case qq30 => k_is)
      (case qq31 => k_is)
      (case qq32 => k_is)
    have h_is_integer := G04.fc_is_integer (Z := ⟨PySem.Challenge.rw_roundwarrant_k04_whole_gaps_next_ones_an.prog, w, (hd04.heap_39 w.params), mg, base, tabOf G04.cs⟩) B rfl D_is_integer
    have D_is_within : DefOk ⟨PySem.Challenge.rw_roundwarrant_k04_whole_gaps_next_ones_an.prog, w, (hd04.heap_39 w.params), mg, base, tabOf G04.cs⟩ "is_within" G04.s_is_within := by
      refine' def_mk KX G ?qq33 ?qq34 ?qq35 ?qq36
      (case qq33 => k_is)
      (case qq34 => k_is)
      (case qq35 => k_is)
      (case qq36 => k_is)
    have h_is_within := G04.fc_is_within (Z := ⟨PySem.Challenge.rw_roundwarrant_k04_whole_gaps_next_ones_an.prog, w, (hd04.heap_39 w.params), mg, base, tabOf G04.cs⟩) B rfl h_is_integer D_is_within
    have D_too_great : DefOk ⟨PySem.Challenge.rw_roundwarrant_k04_whole_gaps_next_ones_an.prog, w, (hd04.heap_39 w.params), mg, base, tabOf G04.cs⟩ "too_great" G04.s_too_great := by
      refine' def_mk KX G ?qq37 ?qq38 ?qq39 ?qq40
      (case qq37 => k_is)
      (case qq38 => k_is)
      (case qq39 => k_is)
      (case qq40 => k_is)
    have h_too_great := G04.fc_too_great (Z := ⟨PySem.Challenge.rw_roundwarrant_k04_whole_gaps_next_ones_an.prog, w, (hd04.heap_39 w.params), mg, base, tabOf G04.cs⟩) B rfl h_MOST_TURNS h_FIFTY D_too_great
    have D_common_divisor : DefOk ⟨PySem.Challenge.rw_roundwarrant_k04_whole_gaps_next_ones_an.prog, w, (hd04.heap_39 w.params), mg, base, tabOf G04.cs⟩ "common_divisor" G04.s_common_divisor := by
      refine' def_mk KX G ?qq41 ?qq42 ?qq43 ?qq44
      (case qq41 => k_is)
      (case qq42 => k_is)
      (case qq43 => k_is)
      (case qq44 => k_is)
    have h_common_divisor := G04.fc_common_divisor (Z := ⟨PySem.Challenge.rw_roundwarrant_k04_whole_gaps_next_ones_an.prog, w, (hd04.heap_39 w.params), mg, base, tabOf G04.cs⟩) B rfl D_common_divisor
    have D_is_fraction : DefOk ⟨PySem.Challenge.rw_roundwarrant_k04_whole_gaps_next_ones_an.prog, w, (hd04.heap_39 w.params), mg, base, tabOf G04.cs⟩ "is_fraction" G04.s_is_fraction := by
      refine' def_mk KX G ?qq45 ?qq46 ?qq47 ?qq48
      (case qq45 => k_is)
      (case qq46 => k_is)
      (case qq47 => k_is)
      (case qq48 => k_is)
    have h_is_fraction := G04.fc_is_fraction (Z := ⟨PySem.Challenge.rw_roundwarrant_k04_whole_gaps_next_ones_an.prog, w, (hd04.heap_39 w.params), mg, base, tabOf G04.cs⟩) B rfl h_is_integer h_too_great h_common_divisor D_is_fraction
    have D_check_fraction : DefOk ⟨PySem.Challenge.rw_roundwarrant_k04_whole_gaps_next_ones_an.prog, w, (hd04.heap_39 w.params), mg, base, tabOf G04.cs⟩ "check_fraction" G04.s_check_fraction := by
      refine' def_mk KX G ?qq49 ?qq50 ?qq51 ?qq52
      (case qq49 => k_is)
      (case qq50 => k_is)
      (case qq51 => k_is)
      (case qq52 => k_is)
    have h_check_fraction := G04.fc_check_fraction (Z := ⟨PySem.Challenge.rw_roundwarrant_k04_whole_gaps_next_ones_an.prog, w, (hd04.heap_39 w.params), mg, base, tabOf G04.cs⟩) B rfl e_NoFraction h_is_fraction D_check_fraction
    have D_check_two : DefOk ⟨PySem.Challenge.rw_roundwarrant_k04_whole_gaps_next_ones_an.prog, w, (hd04.heap_39 w.params), mg, base, tabOf G04.cs⟩ "check_two" G04.s_check_two := by
      refine' def_mk KX G ?qq53 ?qq54 ?qq55 ?qq56
      (case qq53 => k_is)
      (case qq54 => k_is)
      (case qq55 => k_is)
      (case qq56 => k_is)
    have h_check_two := G04.fc_check_two (Z := ⟨PySem.Challenge.rw_roundwarrant_k04_whole_gaps_next_ones_an.prog, w, (hd04.heap_39 w.params), mg, base, tabOf G04.cs⟩) B rfl h_check_fraction D_check_two
    have D_made : DefOk ⟨PySem.Challenge.rw_roundwarrant_k04_whole_gaps_next_ones_an.prog, w, (hd04.heap_39 w.params), mg, base, tabOf G04.cs⟩ "made" G04.s_made := by
      refine' def_mk KX G ?qq57 ?qq58 ?qq59 ?qq60
      (case qq57 => k_is)
      (case qq58 => k_is)
      (case qq59 => k_is)
      (case qq60 => k_is)
    have h_made := G04.fc_made (Z := ⟨PySem.Challenge.rw_roundwarrant_k04_whole_gaps_next_ones_an.prog, w, (hd04.heap_39 w.params), mg, base, tabOf G04.cs⟩) B rfl e_NoFraction h_common_divisor h_too_great D_made
    have D_fraction : DefOk ⟨PySem.Challenge.rw_roundwarrant_k04_whole_gaps_next_ones_an.prog, w, (hd04.heap_39 w.params), mg, base, tabOf G04.cs⟩ "fraction" G04.s_fraction := by
      refine' def_mk KX G ?qq61 ?qq62 ?qq63 ?qq64
      (case qq61 => k_is)
      (case qq62 => k_is)
      (case qq63 => k_is)
      (case qq64 => k_is)
    have h_fraction := G04.fc_fraction (Z := ⟨PySem.Challenge.rw_roundwarrant_k04_whole_gaps_next_ones_an.prog, w, (hd04.heap_39 w.params), mg, base, tabOf G04.cs⟩) B rfl e_NoFraction h_is_integer h_made D_fraction
    have D_raw_less : DefOk ⟨PySem.Challenge.rw_roundwarrant_k04_whole_gaps_next_ones_an.prog, w, (hd04.heap_39 w.params), mg, base, tabOf G04.cs⟩ "raw_less" G04.s_raw_less := by
      refine' def_mk KX G ?qq65 ?qq66 ?qq67 ?qq68
      (case qq65 => k_is)
      (case qq66 => k_is)
      (case qq67 => k_is)
      (case qq68 => k_is)
    have h_raw_less := G04.fc_raw_less (Z := ⟨PySem.Challenge.rw_roundwarrant_k04_whole_gaps_next_ones_an.prog, w, (hd04.heap_39 w.params), mg, base, tabOf G04.cs⟩) B rfl h_made D_raw_less
    have D_raw_times : DefOk ⟨PySem.Challenge.rw_roundwarrant_k04_whole_gaps_next_ones_an.prog, w, (hd04.heap_39 w.params), mg, base, tabOf G04.cs⟩ "raw_times" G04.s_raw_times := by
      refine' def_mk KX G ?qq69 ?qq70 ?qq71 ?qq72
      (case qq69 => k_is)
      (case qq70 => k_is)
      (case qq71 => k_is)
      (case qq72 => k_is)
    have h_raw_times := G04.fc_raw_times (Z := ⟨PySem.Challenge.rw_roundwarrant_k04_whole_gaps_next_ones_an.prog, w, (hd04.heap_39 w.params), mg, base, tabOf G04.cs⟩) B rfl h_made D_raw_times
    have D_raw_at_most : DefOk ⟨PySem.Challenge.rw_roundwarrant_k04_whole_gaps_next_ones_an.prog, w, (hd04.heap_39 w.params), mg, base, tabOf G04.cs⟩ "raw_at_most" G04.s_raw_at_most := by
      refine' def_mk KX G ?qq73 ?qq74 ?qq75 ?qq76
      (case qq73 => k_is)
      (case qq74 => k_is)
      (case qq75 => k_is)
      (case qq76 => k_is)
    have h_raw_at_most := G04.fc_raw_at_most (Z := ⟨PySem.Challenge.rw_roundwarrant_k04_whole_gaps_next_ones_an.prog, w, (hd04.heap_39 w.params), mg, base, tabOf G04.cs⟩) B rfl D_raw_at_most
    have D_at_most : DefOk ⟨PySem.Challenge.rw_roundwarrant_k04_whole_gaps_next_ones_an.prog, w, (hd04.heap_39 w.params), mg, base, tabOf G04.cs⟩ "at_most" G04.s_at_most := by
      refine' def_mk KX G ?qq77 ?qq78 ?qq79 ?qq80
      (case qq77 => k_is)
      (case qq78 => k_is)
      (case qq79 => k_is)
      (case qq80 => k_is)
    have h_at_most := G04.fc_at_most (Z := ⟨PySem.Challenge.rw_roundwarrant_k04_whole_gaps_next_ones_an.prog, w, (hd04.heap_39 w.params), mg, base, tabOf G04.cs⟩) B rfl h_check_two h_raw_at_most D_at_most
    have D_raw_size : DefOk ⟨PySem.Challenge.rw_roundwarrant_k04_whole_gaps_next_ones_an.prog, w, (hd04.heap_39 w.params), mg, base, tabOf G04.cs⟩ "raw_size" G04.s_raw_size := by
      refine' def_mk KX G ?qq81 ?qq82 ?qq83 ?qq84
      (case qq81 => k_is)
      (case qq82 => k_is)
      (case qq83 => k_is)
      (case qq84 => k_is)
    have h_raw_size := G04.fc_raw_size (Z := ⟨PySem.Challenge.rw_roundwarrant_k04_whole_gaps_next_ones_an.prog, w, (hd04.heap_39 w.params), mg, base, tabOf G04.cs⟩) B rfl D_raw_size
    have D_digits_of : DefOk ⟨PySem.Challenge.rw_roundwarrant_k04_whole_gaps_next_ones_an.prog, w, (hd04.heap_39 w.params), mg, base, tabOf G04.cs⟩ "digits_of" G04.s_digits_of := by
      refine' def_mk KX G ?qq85 ?qq86 ?qq87 ?qq88
      (case qq85 => k_is)
      (case qq86 => k_is)
      (case qq87 => k_is)
      (case qq88 => k_is)
    have h_digits_of := G04.fc_digits_of (Z := ⟨PySem.Challenge.rw_roundwarrant_k04_whole_gaps_next_ones_an.prog, w, (hd04.heap_39 w.params), mg, base, tabOf G04.cs⟩) B rfl D_digits_of
    have D_is_short : DefOk ⟨PySem.Challenge.rw_roundwarrant_k04_whole_gaps_next_ones_an.prog, w, (hd04.heap_39 w.params), mg, base, tabOf G04.cs⟩ "is_short" G04.s_is_short := by
      refine' def_mk KX G ?qq89 ?qq90 ?qq91 ?qq92
      (case qq89 => k_is)
      (case qq90 => k_is)
      (case qq91 => k_is)
      (case qq92 => k_is)
    have h_is_short := G04.fc_is_short (Z := ⟨PySem.Challenge.rw_roundwarrant_k04_whole_gaps_next_ones_an.prog, w, (hd04.heap_39 w.params), mg, base, tabOf G04.cs⟩) B rfl h_LONGEST h_digits_of D_is_short
    have D_is_format : DefOk ⟨PySem.Challenge.rw_roundwarrant_k04_whole_gaps_next_ones_an.prog, w, (hd04.heap_39 w.params), mg, base, tabOf G04.cs⟩ "is_format" G04.s_is_format := by
      refine' def_mk KX G ?qq93 ?qq94 ?qq95 ?qq96
      (case qq93 => k_is)
      (case qq94 => k_is)
      (case qq95 => k_is)
      (case qq96 => k_is)
    have h_is_format := G04.fc_is_format (Z := ⟨PySem.Challenge.rw_roundwarrant_k04_whole_gaps_next_ones_an.prog, w, (hd04.heap_39 w.params), mg, base, tabOf G04.cs⟩) B rfl h_MOST_BASE h_MOST_FIGURES h_MOST_EXPONENT h_is_within h_is_short D_is_format
    have D_check_format : DefOk ⟨PySem.Challenge.rw_roundwarrant_k04_whole_gaps_next_ones_an.prog, w, (hd04.heap_39 w.params), mg, base, tabOf G04.cs⟩ "check_format" G04.s_check_format := by
      refine' def_mk KX G ?qq97 ?qq98 ?qq99 ?qq100
      (case qq97 => k_is)
      (case qq98 => k_is)
      (case qq99 => k_is)
      (case qq100 => k_is)
    have h_check_format := G04.fc_check_format (Z := ⟨PySem.Challenge.rw_roundwarrant_k04_whole_gaps_next_ones_an.prog, w, (hd04.heap_39 w.params), mg, base, tabOf G04.cs⟩) B rfl e_NoFormat h_is_format D_check_format
    have D_check_way : DefOk ⟨PySem.Challenge.rw_roundwarrant_k04_whole_gaps_next_ones_an.prog, w, (hd04.heap_39 w.params), mg, base, tabOf G04.cs⟩ "check_way" G04.s_check_way := by
      refine' def_mk KX G ?qq101 ?qq102 ?qq103 ?qq104
      (case qq101 => k_is)
      (case qq102 => k_is)
      (case qq103 => k_is)
      (case qq104 => k_is)
    have h_check_way := G04.fc_check_way (Z := ⟨PySem.Challenge.rw_roundwarrant_k04_whole_gaps_next_ones_an.prog, w, (hd04.heap_39 w.params), mg, base, tabOf G04.cs⟩) B rfl h_WAYS e_NoWay D_check_way
    have D_power : DefOk ⟨PySem.Challenge.rw_roundwarrant_k04_whole_gaps_next_ones_an.prog, w, (hd04.heap_39 w.params), mg, base, tabOf G04.cs⟩ "power" G04.s_power := by
      refine' def_mk KX G ?qq105 ?qq106 ?qq107 ?qq108
      (case qq105 => k_is)
      (case qq106 => k_is)
      (case qq107 => k_is)
      (case qq108 => k_is)
    have h_power := G04.fc_power (Z := ⟨PySem.Challenge.rw_roundwarrant_k04_whole_gaps_next_ones_an.prog, w, (hd04.heap_39 w.params), mg, base, tabOf G04.cs⟩) B rfl D_power
    have D_raw_most : DefOk ⟨PySem.Challenge.rw_roundwarrant_k04_whole_gaps_next_ones_an.prog, w, (hd04.heap_39 w.params), mg, base, tabOf G04.cs⟩ "raw_most" G04.s_raw_most := by
      refine' def_mk KX G ?qq109 ?qq110 ?qq111 ?qq112
      (case qq109 => k_is)
      (case qq110 => k_is)
      (case qq111 => k_is)
      (case qq112 => k_is)
    have h_raw_most := G04.fc_raw_most (Z := ⟨PySem.Challenge.rw_roundwarrant_k04_whole_gaps_next_ones_an.prog, w, (hd04.heap_39 w.params), mg, base, tabOf G04.cs⟩) B rfl h_raw_times h_power D_raw_most
    have D_most_of : DefOk ⟨PySem.Challenge.rw_roundwarrant_k04_whole_gaps_next_ones_an.prog, w, (hd04.heap_39 w.params), mg, base, tabOf G04.cs⟩ "most_of" G04.s_most_of := by
      refine' def_mk KX G ?qq113 ?qq114 ?qq115 ?qq116
      (case qq113 => k_is)
      (case qq114 => k_is)
      (case qq115 => k_is)
      (case qq116 => k_is)
    have h_most_of := G04.fc_most_of (Z := ⟨PySem.Challenge.rw_roundwarrant_k04_whole_gaps_next_ones_an.prog, w, (hd04.heap_39 w.params), mg, base, tabOf G04.cs⟩) B rfl h_check_format h_raw_most D_most_of
    have D_least_of : DefOk ⟨PySem.Challenge.rw_roundwarrant_k04_whole_gaps_next_ones_an.prog, w, (hd04.heap_39 w.params), mg, base, tabOf G04.cs⟩ "least_of" G04.s_least_of := by
      refine' def_mk KX G ?qq117 ?qq118 ?qq119 ?qq120
      (case qq117 => k_is)
      (case qq118 => k_is)
      (case qq119 => k_is)
      (case qq120 => k_is)
    have h_least_of := G04.fc_least_of (Z := ⟨PySem.Challenge.rw_roundwarrant_k04_whole_gaps_next_ones_an.prog, w, (hd04.heap_39 w.params), mg, base, tabOf G04.cs⟩) B rfl h_check_format h_power D_least_of
    have D_exponent_at : DefOk ⟨PySem.Challenge.rw_roundwarrant_k04_whole_gaps_next_ones_an.prog, w, (hd04.heap_39 w.params), mg, base, tabOf G04.cs⟩ "exponent_at" G04.s_exponent_at := by
      refine' def_mk KX G ?qq121 ?qq122 ?qq123 ?qq124
      (case qq121 => k_is)
      (case qq122 => k_is)
      (case qq123 => k_is)
      (case qq124 => k_is)
    have h_exponent_at := G04.fc_exponent_at (Z := ⟨PySem.Challenge.rw_roundwarrant_k04_whole_gaps_next_ones_an.prog, w, (hd04.heap_39 w.params), mg, base, tabOf G04.cs⟩) B rfl h_power h_raw_size D_exponent_at
    have D_raw_gap : DefOk ⟨PySem.Challenge.rw_roundwarrant_k04_whole_gaps_next_ones_an.prog, w, (hd04.heap_39 w.params), mg, base, tabOf G04.cs⟩ "raw_gap" G04.s_raw_gap := by
      refine' def_mk KX G ?qq125 ?qq126 ?qq127 ?qq128
      (case qq125 => k_is)
      (case qq126 => k_is)
      (case qq127 => k_is)
      (case qq128 => k_is)
    have h_raw_gap := G04.fc_raw_gap (Z := ⟨PySem.Challenge.rw_roundwarrant_k04_whole_gaps_next_ones_an.prog, w, (hd04.heap_39 w.params), mg, base, tabOf G04.cs⟩) B rfl h_power h_exponent_at D_raw_gap
    have D_gap_at : DefOk ⟨PySem.Challenge.rw_roundwarrant_k04_whole_gaps_next_ones_an.prog, w, (hd04.heap_39 w.params), mg, base, tabOf G04.cs⟩ "gap_at" G04.s_gap_at := by
      refine' def_mk KX G ?qq129 ?qq130 ?qq131 ?qq132
      (case qq129 => k_is)
      (case qq130 => k_is)
      (case qq131 => k_is)
      (case qq132 => k_is)
    have h_gap_at := G04.fc_gap_at (Z := ⟨PySem.Challenge.rw_roundwarrant_k04_whole_gaps_next_ones_an.prog, w, (hd04.heap_39 w.params), mg, base, tabOf G04.cs⟩) B rfl h_check_format h_check_fraction h_raw_gap D_gap_at
    have D_near_integer : DefOk ⟨PySem.Challenge.rw_roundwarrant_k04_whole_gaps_next_ones_an.prog, w, (hd04.heap_39 w.params), mg, base, tabOf G04.cs⟩ "near_integer" G04.s_near_integer := by
      refine' def_mk KX G ?qq133 ?qq134 ?qq135 ?qq136
      (case qq133 => k_is)
      (case qq134 => k_is)
      (case qq135 => k_is)
      (case qq136 => k_is)
    have h_near_integer := G04.fc_near_integer (Z := ⟨PySem.Challenge.rw_roundwarrant_k04_whole_gaps_next_ones_an.prog, w, (hd04.heap_39 w.params), mg, base, tabOf G04.cs⟩) B rfl D_near_integer
    have D_integer_by : DefOk ⟨PySem.Challenge.rw_roundwarrant_k04_whole_gaps_next_ones_an.prog, w, (hd04.heap_39 w.params), mg, base, tabOf G04.cs⟩ "integer_by" G04.s_integer_by := by
      refine' def_mk KX G ?qq137 ?qq138 ?qq139 ?qq140
      (case qq137 => k_is)
      (case qq138 => k_is)
      (case qq139 => k_is)
      (case qq140 => k_is)
    have h_integer_by := G04.fc_integer_by (Z := ⟨PySem.Challenge.rw_roundwarrant_k04_whole_gaps_next_ones_an.prog, w, (hd04.heap_39 w.params), mg, base, tabOf G04.cs⟩) B rfl h_NEAR h_DOWN h_TO_ZERO h_near_integer D_integer_by
    have D_raw_rounded : DefOk ⟨PySem.Challenge.rw_roundwarrant_k04_whole_gaps_next_ones_an.prog, w, (hd04.heap_39 w.params), mg, base, tabOf G04.cs⟩ "raw_rounded" G04.s_raw_rounded := by
      refine' def_mk KX G ?qq141 ?qq142 ?qq143 ?qq144
      (case qq141 => k_is)
      (case qq142 => k_is)
      (case qq143 => k_is)
      (case qq144 => k_is)
    have h_raw_rounded := G04.fc_raw_rounded (Z := ⟨PySem.Challenge.rw_roundwarrant_k04_whole_gaps_next_ones_an.prog, w, (hd04.heap_39 w.params), mg, base, tabOf G04.cs⟩) B rfl h_raw_gap h_raw_most h_integer_by h_raw_times D_raw_rounded
    have D_rounded : DefOk ⟨PySem.Challenge.rw_roundwarrant_k04_whole_gaps_next_ones_an.prog, w, (hd04.heap_39 w.params), mg, base, tabOf G04.cs⟩ "rounded" G04.s_rounded := by
      refine' def_mk KX G ?qq145 ?qq146 ?qq147 ?qq148
      (case qq145 => k_is)
      (case qq146 => k_is)
      (case qq147 => k_is)
      (case qq148 => k_is)
    have h_rounded := G04.fc_rounded (Z := ⟨PySem.Challenge.rw_roundwarrant_k04_whole_gaps_next_ones_an.prog, w, (hd04.heap_39 w.params), mg, base, tabOf G04.cs⟩) B rfl h_check_format h_check_way h_check_fraction h_raw_rounded D_rounded
    have D_raw_is_number : DefOk ⟨PySem.Challenge.rw_roundwarrant_k04_whole_gaps_next_ones_an.prog, w, (hd04.heap_39 w.params), mg, base, tabOf G04.cs⟩ "raw_is_number" G04.s_raw_is_number := by
      refine' def_mk KX G ?qq149 ?qq150 ?qq151 ?qq152
      (case qq149 => k_is)
      (case qq150 => k_is)
      (case qq151 => k_is)
      (case qq152 => k_is)
    have h_raw_is_number := G04.fc_raw_is_number (Z := ⟨PySem.Challenge.rw_roundwarrant_k04_whole_gaps_next_ones_an.prog, w, (hd04.heap_39 w.params), mg, base, tabOf G04.cs⟩) B rfl h_raw_gap h_raw_at_most h_raw_most h_raw_size D_raw_is_number
    have D_is_number_of : DefOk ⟨PySem.Challenge.rw_roundwarrant_k04_whole_gaps_next_ones_an.prog, w, (hd04.heap_39 w.params), mg, base, tabOf G04.cs⟩ "is_number_of" G04.s_is_number_of := by
      refine' def_mk KX G ?qq153 ?qq154 ?qq155 ?qq156
      (case qq153 => k_is)
      (case qq154 => k_is)
      (case qq155 => k_is)
      (case qq156 => k_is)
    have h_is_number_of := G04.fc_is_number_of (Z := ⟨PySem.Challenge.rw_roundwarrant_k04_whole_gaps_next_ones_an.prog, w, (hd04.heap_39 w.params), mg, base, tabOf G04.cs⟩) B rfl h_check_format h_check_fraction h_raw_is_number D_is_number_of
    have D_beside : DefOk ⟨PySem.Challenge.rw_roundwarrant_k04_whole_gaps_next_ones_an.prog, w, (hd04.heap_39 w.params), mg, base, tabOf G04.cs⟩ "beside" G04.s_beside := by
      refine' def_mk KX G ?qq157 ?qq158 ?qq159 ?qq160
      (case qq157 => k_is)
      (case qq158 => k_is)
      (case qq159 => k_is)
      (case qq160 => k_is)
    have h_beside := G04.fc_beside (Z := ⟨PySem.Challenge.rw_roundwarrant_k04_whole_gaps_next_ones_an.prog, w, (hd04.heap_39 w.params), mg, base, tabOf G04.cs⟩) B rfl h_UP h_power h_raw_rounded h_raw_times D_beside
    have D_check_number : DefOk ⟨PySem.Challenge.rw_roundwarrant_k04_whole_gaps_next_ones_an.prog, w, (hd04.heap_39 w.params), mg, base, tabOf G04.cs⟩ "check_number" G04.s_check_number := by
      refine' def_mk KX G ?qq161 ?qq162 ?qq163 ?qq164
      (case qq161 => k_is)
      (case qq162 => k_is)
      (case qq163 => k_is)
      (case qq164 => k_is)
    have h_check_number := G04.fc_check_number (Z := ⟨PySem.Challenge.rw_roundwarrant_k04_whole_gaps_next_ones_an.prog, w, (hd04.heap_39 w.params), mg, base, tabOf G04.cs⟩) B rfl e_NoNumberOf h_check_format h_is_fraction h_raw_is_number D_check_number
    have D_next_up : DefOk ⟨PySem.Challenge.rw_roundwarrant_k04_whole_gaps_next_ones_an.prog, w, (hd04.heap_39 w.params), mg, base, tabOf G04.cs⟩ "next_up" G04.s_next_up := by
      refine' def_mk KX G ?qq165 ?qq166 ?qq167 ?qq168
      (case qq165 => k_is)
      (case qq166 => k_is)
      (case qq167 => k_is)
      (case qq168 => k_is)
    have h_next_up := G04.fc_next_up (Z := ⟨PySem.Challenge.rw_roundwarrant_k04_whole_gaps_next_ones_an.prog, w, (hd04.heap_39 w.params), mg, base, tabOf G04.cs⟩) B rfl h_UP h_check_number h_beside D_next_up
    have D_next_down : DefOk ⟨PySem.Challenge.rw_roundwarrant_k04_whole_gaps_next_ones_an.prog, w, (hd04.heap_39 w.params), mg, base, tabOf G04.cs⟩ "next_down" G04.s_next_down := by
      refine' def_mk KX G ?qq169 ?qq170 ?qq171 ?qq172
      (case qq169 => k_is)
      (case qq170 => k_is)
      (case qq171 => k_is)
      (case qq172 => k_is)
    have h_next_down := G04.fc_next_down (Z := ⟨PySem.Challenge.rw_roundwarrant_k04_whole_gaps_next_ones_an.prog, w, (hd04.heap_39 w.params), mg, base, tabOf G04.cs⟩) B rfl h_DOWN h_check_number h_beside D_next_down
    have D_raw_off : DefOk ⟨PySem.Challenge.rw_roundwarrant_k04_whole_gaps_next_ones_an.prog, w, (hd04.heap_39 w.params), mg, base, tabOf G04.cs⟩ "raw_off" G04.s_raw_off := by
      refine' def_mk KX G ?qq173 ?qq174 ?qq175 ?qq176
      (case qq173 => k_is)
      (case qq174 => k_is)
      (case qq175 => k_is)
      (case qq176 => k_is)
    have h_raw_off := G04.fc_raw_off (Z := ⟨PySem.Challenge.rw_roundwarrant_k04_whole_gaps_next_ones_an.prog, w, (hd04.heap_39 w.params), mg, base, tabOf G04.cs⟩) B rfl h_NEAR h_raw_gap h_raw_times D_raw_off
    have D_off_for : DefOk ⟨PySem.Challenge.rw_roundwarrant_k04_whole_gaps_next_ones_an.prog, w, (hd04.heap_39 w.params), mg, base, tabOf G04.cs⟩ "off_for" G04.s_off_for := by
      refine' def_mk KX G ?qq177 ?qq178 ?qq179 ?qq180
      (case qq177 => k_is)
      (case qq178 => k_is)
      (case qq179 => k_is)
      (case qq180 => k_is)
    have h_off_for := G04.fc_off_for (Z := ⟨PySem.Challenge.rw_roundwarrant_k04_whole_gaps_next_ones_an.prog, w, (hd04.heap_39 w.params), mg, base, tabOf G04.cs⟩) B rfl h_check_format h_check_way h_check_fraction h_raw_off D_off_for
    have D_numbers_many : DefOk ⟨PySem.Challenge.rw_roundwarrant_k04_whole_gaps_next_ones_an.prog, w, (hd04.heap_39 w.params), mg, base, tabOf G04.cs⟩ "numbers_many" G04.s_numbers_many := by
      refine' def_mk KX G ?qq181 ?qq182 ?qq183 ?qq184
      (case qq181 => k_is)
      (case qq182 => k_is)
      (case qq183 => k_is)
      (case qq184 => k_is)
    have h_numbers_many := G04.fc_numbers_many (Z := ⟨PySem.Challenge.rw_roundwarrant_k04_whole_gaps_next_ones_an.prog, w, (hd04.heap_39 w.params), mg, base, tabOf G04.cs⟩) B rfl h_MOST_DIGITS h_MOST_COUNTED e_TooMany h_check_format h_power D_numbers_many
    have D_numbers_from : DefOk ⟨PySem.Challenge.rw_roundwarrant_k04_whole_gaps_next_ones_an.prog, w, (hd04.heap_39 w.params), mg, base, tabOf G04.cs⟩ "numbers_from" G04.s_numbers_from := by
      refine' def_mk KX G ?qq185 ?qq186 ?qq187 ?qq188
      (case qq185 => k_is)
      (case qq186 => k_is)
      (case qq187 => k_is)
      (case qq188 => k_is)
    have h_numbers_from := G04.fc_numbers_from (Z := ⟨PySem.Challenge.rw_roundwarrant_k04_whole_gaps_next_ones_an.prog, w, (hd04.heap_39 w.params), mg, base, tabOf G04.cs⟩) B rfl h_UP h_MOST_LISTED e_NoStretch e_TooMany h_check_format h_check_two h_raw_at_most h_raw_most h_raw_rounded h_beside D_numbers_from
    have D_raw_hold_of : DefOk ⟨PySem.Challenge.rw_roundwarrant_k04_whole_gaps_next_ones_an.prog, w, (hd04.heap_39 w.params), mg, base, tabOf G04.cs⟩ "raw_hold_of" G04.s_raw_hold_of := by
      refine' def_mk KX G ?qq189 ?qq190 ?qq191 ?qq192
      (case qq189 => k_is)
      (case qq190 => k_is)
      (case qq191 => k_is)
      (case qq192 => k_is)
    have h_raw_hold_of := G04.fc_raw_hold_of (Z := ⟨PySem.Challenge.rw_roundwarrant_k04_whole_gaps_next_ones_an.prog, w, (hd04.heap_39 w.params), mg, base, tabOf G04.cs⟩) B rfl h_raw_rounded h_raw_size h_raw_less D_raw_hold_of
    have D_hold_of : DefOk ⟨PySem.Challenge.rw_roundwarrant_k04_whole_gaps_next_ones_an.prog, w, (hd04.heap_39 w.params), mg, base, tabOf G04.cs⟩ "hold_of" G04.s_hold_of := by
      refine' def_mk KX G ?qq193 ?qq194 ?qq195 ?qq196
      (case qq193 => k_is)
      (case qq194 => k_is)
      (case qq195 => k_is)
      (case qq196 => k_is)
    have h_hold_of := G04.fc_hold_of (Z := ⟨PySem.Challenge.rw_roundwarrant_k04_whole_gaps_next_ones_an.prog, w, (hd04.heap_39 w.params), mg, base, tabOf G04.cs⟩) B rfl h_check_format h_check_way h_check_fraction h_raw_hold_of D_hold_of
    have D_law_hand_L : DefOk ⟨PySem.Challenge.rw_roundwarrant_k04_whole_gaps_next_ones_an.prog, w, (hd04.heap_39 w.params), mg, base, tabOf G04.cs⟩ "_law_hand" G04.s_law_hand_L := by
      refine' def_mk KX G ?qq197 ?qq198 ?qq199 ?qq200
      (case qq197 => k_is)
      (case qq198 => k_is)
      (case qq199 => k_is)
      (case qq200 => k_is)
    have h_law_hand_L := G04.fc_law_hand_L (Z := ⟨PySem.Challenge.rw_roundwarrant_k04_whole_gaps_next_ones_an.prog, w, (hd04.heap_39 w.params), mg, base, tabOf G04.cs⟩) B rfl D_law_hand_L
    have D_law_draw_L : DefOk ⟨PySem.Challenge.rw_roundwarrant_k04_whole_gaps_next_ones_an.prog, w, (hd04.heap_39 w.params), mg, base, tabOf G04.cs⟩ "_law_draw" G04.s_law_draw_L := by
      refine' def_mk KX G ?qq201 ?qq202 ?qq203 ?qq204
      (case qq201 => k_is)
      (case qq202 => k_is)
      (case qq203 => k_is)
      (case qq204 => k_is)
    have h_law_draw_L := G04.fc_law_draw_L (Z := ⟨PySem.Challenge.rw_roundwarrant_k04_whole_gaps_next_ones_an.prog, w, (hd04.heap_39 w.params), mg, base, tabOf G04.cs⟩) B rfl D_law_draw_L
    have D_law_any_L : DefOk ⟨PySem.Challenge.rw_roundwarrant_k04_whole_gaps_next_ones_an.prog, w, (hd04.heap_39 w.params), mg, base, tabOf G04.cs⟩ "_law_any" G04.s_law_any_L := by
      refine' def_mk KX G ?qq205 ?qq206 ?qq207 ?qq208
      (case qq205 => k_is)
      (case qq206 => k_is)
      (case qq207 => k_is)
      (case qq208 => k_is)
    have h_law_any_L := G04.fc_law_any_L (Z := ⟨PySem.Challenge.rw_roundwarrant_k04_whole_gaps_next_ones_an.prog, w, (hd04.heap_39 w.params), mg, base, tabOf G04.cs⟩) B rfl h_law_draw_L D_law_any_L
    have D_law_low_L : DefOk ⟨PySem.Challenge.rw_roundwarrant_k04_whole_gaps_next_ones_an.prog, w, (hd04.heap_39 w.params), mg, base, tabOf G04.cs⟩ "_law_low" G04.s_law_low_L := by
      refine' def_mk KX G ?qq209 ?qq210 ?qq211 ?qq212
      (case qq209 => k_is)
      (case qq210 => k_is)
      (case qq211 => k_is)
      (case qq212 => k_is)
    have h_law_low_L := G04.fc_law_low_L (Z := ⟨PySem.Challenge.rw_roundwarrant_k04_whole_gaps_next_ones_an.prog, w, (hd04.heap_39 w.params), mg, base, tabOf G04.cs⟩) B rfl D_law_low_L
    have D_law_plus_L : DefOk ⟨PySem.Challenge.rw_roundwarrant_k04_whole_gaps_next_ones_an.prog, w, (hd04.heap_39 w.params), mg, base, tabOf G04.cs⟩ "_law_plus" G04.s_law_plus_L := by
      refine' def_mk KX G ?qq213 ?qq214 ?qq215 ?qq216
      (case qq213 => k_is)
      (case qq214 => k_is)
      (case qq215 => k_is)
      (case qq216 => k_is)
    have h_law_plus_L := G04.fc_law_plus_L (Z := ⟨PySem.Challenge.rw_roundwarrant_k04_whole_gaps_next_ones_an.prog, w, (hd04.heap_39 w.params), mg, base, tabOf G04.cs⟩) B rfl h_law_low_L D_law_plus_L
    have D_law_times_L : DefOk ⟨PySem.Challenge.rw_roundwarrant_k04_whole_gaps_next_ones_an.prog, w, (hd04.heap_39 w.params), mg, base, tabOf G04.cs⟩ "_law_times" G04.s_law_times_L := by
      refine' def_mk KX G ?qq217 ?qq218 ?qq219 ?qq220
      (case qq217 => k_is)
      (case qq218 => k_is)
      (case qq219 => k_is)
      (case qq220 => k_is)
    have h_law_times_L := G04.fc_law_times_L (Z := ⟨PySem.Challenge.rw_roundwarrant_k04_whole_gaps_next_ones_an.prog, w, (hd04.heap_39 w.params), mg, base, tabOf G04.cs⟩) B rfl h_law_low_L D_law_times_L
    have D_law_less_L : DefOk ⟨PySem.Challenge.rw_roundwarrant_k04_whole_gaps_next_ones_an.prog, w, (hd04.heap_39 w.params), mg, base, tabOf G04.cs⟩ "_law_less" G04.s_law_less_L := by
      refine' def_mk KX G ?qq221 ?qq222 ?qq223 ?qq224
      (case qq221 => k_is)
      (case qq222 => k_is)
      (case qq223 => k_is)
      (case qq224 => k_is)
    have h_law_less_L := G04.fc_law_less_L (Z := ⟨PySem.Challenge.rw_roundwarrant_k04_whole_gaps_next_ones_an.prog, w, (hd04.heap_39 w.params), mg, base, tabOf G04.cs⟩) B rfl h_law_plus_L D_law_less_L
    have D_law_over_L : DefOk ⟨PySem.Challenge.rw_roundwarrant_k04_whole_gaps_next_ones_an.prog, w, (hd04.heap_39 w.params), mg, base, tabOf G04.cs⟩ "_law_over" G04.s_law_over_L := by
      refine' def_mk KX G ?qq225 ?qq226 ?qq227 ?qq228
      (case qq225 => k_is)
      (case qq226 => k_is)
      (case qq227 => k_is)
      (case qq228 => k_is)
    have h_law_over_L := G04.fc_law_over_L (Z := ⟨PySem.Challenge.rw_roundwarrant_k04_whole_gaps_next_ones_an.prog, w, (hd04.heap_39 w.params), mg, base, tabOf G04.cs⟩) B rfl h_law_low_L D_law_over_L
    have D_law_is_most_L : DefOk ⟨PySem.Challenge.rw_roundwarrant_k04_whole_gaps_next_ones_an.prog, w, (hd04.heap_39 w.params), mg, base, tabOf G04.cs⟩ "_law_is_most" G04.s_law_is_most_L := by
      refine' def_mk KX G ?qq229 ?qq230 ?qq231 ?qq232
      (case qq229 => k_is)
      (case qq230 => k_is)
      (case qq231 => k_is)
      (case qq232 => k_is)
    have h_law_is_most_L := G04.fc_law_is_most_L (Z := ⟨PySem.Challenge.rw_roundwarrant_k04_whole_gaps_next_ones_an.prog, w, (hd04.heap_39 w.params), mg, base, tabOf G04.cs⟩) B rfl D_law_is_most_L
    have D_law_size_L : DefOk ⟨PySem.Challenge.rw_roundwarrant_k04_whole_gaps_next_ones_an.prog, w, (hd04.heap_39 w.params), mg, base, tabOf G04.cs⟩ "_law_size" G04.s_law_size_L := by
      refine' def_mk KX G ?qq233 ?qq234 ?qq235 ?qq236
      (case qq233 => k_is)
      (case qq234 => k_is)
      (case qq235 => k_is)
      (case qq236 => k_is)
    have h_law_size_L := G04.fc_law_size_L (Z := ⟨PySem.Challenge.rw_roundwarrant_k04_whole_gaps_next_ones_an.prog, w, (hd04.heap_39 w.params), mg, base, tabOf G04.cs⟩) B rfl D_law_size_L
    have D_law_power_L : DefOk ⟨PySem.Challenge.rw_roundwarrant_k04_whole_gaps_next_ones_an.prog, w, (hd04.heap_39 w.params), mg, base, tabOf G04.cs⟩ "_law_power" G04.s_law_power_L := by
      refine' def_mk KX G ?qq237 ?qq238 ?qq239 ?qq240
      (case qq237 => k_is)
      (case qq238 => k_is)
      (case qq239 => k_is)
      (case qq240 => k_is)
    have h_law_power_L := G04.fc_law_power_L (Z := ⟨PySem.Challenge.rw_roundwarrant_k04_whole_gaps_next_ones_an.prog, w, (hd04.heap_39 w.params), mg, base, tabOf G04.cs⟩) B rfl D_law_power_L
    have D_law_gap_L : DefOk ⟨PySem.Challenge.rw_roundwarrant_k04_whole_gaps_next_ones_an.prog, w, (hd04.heap_39 w.params), mg, base, tabOf G04.cs⟩ "_law_gap" G04.s_law_gap_L := by
      refine' def_mk KX G ?qq241 ?qq242 ?qq243 ?qq244
      (case qq241 => k_is)
      (case qq242 => k_is)
      (case qq243 => k_is)
      (case qq244 => k_is)
    have h_law_gap_L := G04.fc_law_gap_L (Z := ⟨PySem.Challenge.rw_roundwarrant_k04_whole_gaps_next_ones_an.prog, w, (hd04.heap_39 w.params), mg, base, tabOf G04.cs⟩) B rfl h_law_is_most_L h_law_size_L h_law_power_L D_law_gap_L
    have D_law_said_L : DefOk ⟨PySem.Challenge.rw_roundwarrant_k04_whole_gaps_next_ones_an.prog, w, (hd04.heap_39 w.params), mg, base, tabOf G04.cs⟩ "_law_said" G04.s_law_said_L := by
      refine' def_mk KX G ?qq245 ?qq246 ?qq247 ?qq248
      (case qq245 => k_is)
      (case qq246 => k_is)
      (case qq247 => k_is)
      (case qq248 => k_is)
    have g_law_said_L := G04.fl_law_said_L (Z := ⟨PySem.Challenge.rw_roundwarrant_k04_whole_gaps_next_ones_an.prog, w, (hd04.heap_39 w.params), mg, base, tabOf G04.cs⟩) B rfl e_NoNumberOf e_NoFraction e_NoFormat e_TooMany e_NoStretch hCR ER.cat ER.isE D_law_said_L
    have D_law_numbers_L : DefOk ⟨PySem.Challenge.rw_roundwarrant_k04_whole_gaps_next_ones_an.prog, w, (hd04.heap_39 w.params), mg, base, tabOf G04.cs⟩ "_law_numbers" G04.s_law_numbers_L := by
      refine' def_mk KX G ?qq249 ?qq250 ?qq251 ?qq252
      (case qq249 => k_is)
      (case qq250 => k_is)
      (case qq251 => k_is)
      (case qq252 => k_is)
    have h_law_numbers_L := G04.fc_law_numbers_L (Z := ⟨PySem.Challenge.rw_roundwarrant_k04_whole_gaps_next_ones_an.prog, w, (hd04.heap_39 w.params), mg, base, tabOf G04.cs⟩) B rfl h_law_power_L h_law_times_L h_law_low_L D_law_numbers_L
    have D_law_refused_right_L : DefOkC ⟨PySem.Challenge.rw_roundwarrant_k04_whole_gaps_next_ones_an.prog, w, (hd04.heap_39 w.params), mg, base, tabOf G04.cs⟩ "_law_refused_right" G04.s_law_refused_right_L 497 := by
      refine' defC_mk KX G ?qq253 ?qq254 ?qq255 ?qq256
      (case qq253 => k_is)
      (case qq254 => k_is)
      (case qq255 => k_is)
      (case qq256 => k_is)
    have h_law_refused_right_L := G04.fc_law_refused_right_L (Z := ⟨PySem.Challenge.rw_roundwarrant_k04_whole_gaps_next_ones_an.prog, w, (hd04.heap_39 w.params), mg, base, tabOf G04.cs⟩) B rfl h_law_any_L h_most_of h_gap_at h_next_up h_next_down h_law_over_L h_least_of h_numbers_from h_numbers_many h_is_format g_law_said_L (TB ⟨497, 493, "_law_refused_right.<locals>.<lambda>"⟩ (by simp)) (by simp) (fun p hp he => by simp at hp; rw [hp]) D_law_refused_right_L
    have D_law : DefOk ⟨PySem.Challenge.rw_roundwarrant_k04_whole_gaps_next_ones_an.prog, w, (hd04.heap_39 w.params), mg, base, tabOf G04.cs⟩ "law" G04.s_law := by
      refine' def_mk KX G ?qq257 ?qq258 ?qq259 ?qq260
      (case qq257 => k_is)
      (case qq258 => k_is)
      (case qq259 => k_is)
      (case qq260 => k_is)
    have h_law := G04.fc_law (Z := ⟨PySem.Challenge.rw_roundwarrant_k04_whole_gaps_next_ones_an.prog, w, (hd04.heap_39 w.params), mg, base, tabOf G04.cs⟩) B rfl h_law_hand_L h_law_any_L h_law_draw_L h_law_numbers_L h_numbers_many h_most_of h_least_of h_next_up h_next_down h_law_low_L h_law_plus_L h_is_number_of h_gap_at h_law_gap_L h_law_is_most_L h_law_size_L h_rounded h_off_for h_law_less_L h_hold_of h_at_most h_numbers_from h_law_refused_right_L h_fraction D_law
    obtain ⟨f1, m1, _, fa1⟩ := h_law.ex
    have ef : f1 = fa := by
      have z := m1.symm.trans hmg
      cases z
      rfl
    rw [← ef]
    exact fa1
theorem PySem.Challenge.cw_roundwarrant_k04_whole_gaps_next_ones_an_holds : PySem.Challenge.rw_roundwarrant_k04_whole_gaps_next_ones_an.Holds :=
  hd04 (by
    refine Mi.walk_end (l := PySem.Challenge.rw_roundwarrant_k04_whole_gaps_next_ones_an) (n := 63) (k := 24) rfl (by decide) rfl ⟨rfl, by decide, by decide⟩ (fun w h Y => PySem.W.km_in_of Y) ?F
    case F =>
      intro w mg fa h Y XX KX G hmg
      exact G04.top_ok KX G XX (fun c hc => PySem.W.km_tabs_of Y c.tab (by simp at hc; rcases hc with rfl <;> simp)) hmg G04.law_true)
end
