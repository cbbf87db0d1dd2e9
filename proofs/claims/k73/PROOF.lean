import PyProof.Rows.All
import Wide.All
import OpenK.AllK
import Wide.FinOn
import HandS.ForMost
import HandS.ForExc
import HandS.EndTab
import HandS.Wide
import HandS.TupAny
import HandS.Style
import HandS.IsInst
import PyProof.CallFns
import HandS.Deep
import HandS.Zip
import KE.GoesMore
import HandS.ExcIs
import HandS.Small
import KE.DataFind
import HandS.Lambda
import KE.KNestM
import Wide.Loose
import PySem.Challenge.RW_roundwarrant_k73_whole_backing_of_both
section
set_option Elab.async false
set_option linter.all false
set_option maxRecDepth 100000
set_option maxHeartbeats 2000000
/-! Mi: values as trees, lists that change in a store, and what it means that the machine's state stands for them. -/
namespace Mi
open PySem PySem.Spec PyProof.Rows L2

/-- a value: trees; nl, nd: a list, a dict that nobody changes; ref: a list that is changed, by its number; glb: a def or class of the module -/
inductive PV where
  | non | bl (b : Bool) | int (i : Int) | str (s : Str)
  | tup (xs : List PV) | nl (xs : List PV) | fl (xs : List PV) | nd (ks : List Key) (vs : List PV)
  | ref (n : Nat) | ty (n : String) | glb (x : Str) | err | lam
  deriving Inhabited
/-- what stands in the store -/
inductive SO where
  | lst (xs : List PV)
abbrev Sto := List SO
abbrev EnP := List (Option PV)
/-- an answer of an expression: a value, an error of a class with its fields, or nothing is said -/
inductive Res (α : Type) where
  | ok (a : α) (S : Sto)
  | exc (c : Str) (fs : List (Str × PV)) (S : Sto)
  | bad
/-- an answer of a block -/
inductive SR where
  | nx (ρ : EnP) (S : Sto)
  | rt (v : PV) (S : Sto)
  | bk (ρ : EnP) (S : Sto)
  | ct (ρ : EnP) (S : Sto)
  | exc (c : Str) (fs : List (Str × PV)) (ρ : EnP) (S : Sto)
  | bad
def Res.bind {α β : Type} (r : Res α) (f : α → Sto → Res β) : Res β :=
  match r with
  | .ok a S => f a S
  | .exc c fs S => .exc c fs S
  | .bad => .bad
@[simp] theorem Res.bind_ok {α β : Type} (a : α) (S : Sto) (f : α → Sto → Res β) : (Res.ok a S).bind f = f a S := rfl
@[simp] theorem Res.bind_exc {α β : Type} (c : Str) (fs : List (Str × PV)) (S : Sto) (f : α → Sto → Res β) : (Res.exc c fs S).bind f = .exc c fs S := rfl
@[simp] theorem Res.bind_bad {α β : Type} (f : α → Sto → Res β) : (Res.bad : Res α).bind f = .bad := rfl

/-- where the store's lists stand, and the lists that are being made (by comprehensions that run) -/
structure Mm where
  ix : List Addr
  ex : List Addr
abbrev Mm.no (m : Mm) (a : Addr) : Prop := a ∉ m.ix ∧ a ∉ m.ex
/-- no table of code objects -/
abbrev NT (o : HO) : Prop := ∀ ps, o ≠ .tbl ps
/-- nothing stands there, but a table perhaps -/
abbrev Nil (H : Hp) (a : Addr) : Prop := ∀ o, H a = some o → ¬ NT o
abbrev H0 : Hp := fun _ => none
/-- what trees stand on -/
structure Emb (m : Mm) (H : Hp) (m' : Mm) (H' : Hp) : Prop where
  get : ∀ (n : Nat) (a : Addr), m.ix[n]? = some a → m'.ix[n]? = some a
  keep : ∀ a o, m.no a → H a = some o → NT o → m'.no a ∧ H' a = some o
  tup : ∀ a xs, H a = some (.tup xs) → H' a = some (.tup xs)
  frz : ∀ a o u, H a = some (.frz o u) → H' a = some (.frz o u)
/-- a lambda that a def has got: where it stands, and what must stay while it may be called -/
structure LmI where
  f : Addr
  Φ : Mm → Hp → Prop
  st : ∀ m H m' H', Emb m H m' H' → Φ m H → Φ m' H'
structure Tb where
  tabs : List (Addr × Str)
  lm : Option LmI
/-- the module's facts: its written part, what its names hold, the tables of lambdas; the lambda at hand; the error at hand -/
structure Gm where
  K : PySem.W.Frag
  mg : Str → Option Value
  T : Tb
  er : Option Value
abbrev Gm.bare (g : Gm) : Gm := ⟨g.K, g.mg, ⟨g.T.tabs, none⟩, none⟩
abbrev Bare (g : Gm) : Prop := g.bare = g

mutual
/-- the machine's value v stands for a tree -/
def Rep (g : Gm) (m : Mm) (H : Hp) : PV → V → Prop
  | .non, v => v = .non
  | .bl b, v => v = .bl b
  | .int i, v => v = .int i
  | .str s, v => v = .str s
  | .tup xs, v => ∃ a vs, v = .ref a ∧ SqT g.K H a vs ∧ RepL g m H xs vs
  | .nl xs, v => ∃ a vs, v = .ref a ∧ m.no a ∧ H a = some (HO.lst vs) ∧ RepL g m H xs vs
  | .fl xs, v => ∃ a vs, v = .ref a ∧ ((∃ o, H a = some (HO.frz o (HO.lst vs))) ∨ SqL g.K H0 a vs) ∧ RepL g m H xs vs
  | .nd ks xs, v => ∃ a vs, v = .ref a ∧ m.no a ∧ H a = some (.dK (ks.zip vs)) ∧ ks.length = vs.length ∧ RepL g m H xs vs
  | .ref n, v => ∃ a, m.ix[n]? = some a ∧ v = .ref a
  | .ty n, v => v = .ty n
  | .glb x, v => ∃ a, g.mg x = some (.ref a) ∧ v = .ref a
  | .err, v => ∃ a, g.er = some (.ref a) ∧ v = .ref a
  | .lam, v => ∃ i, g.T.lm = some i ∧ v = .ref i.f ∧ i.Φ m H
def RepL (g : Gm) (m : Mm) (H : Hp) : List PV → List V → Prop
  | [], vs => vs = []
  | x :: xs, vs => ∃ v ws, vs = v :: ws ∧ Rep g m H x v ∧ RepL g m H xs ws
end

/-- what stands behind a stretch of the run: more addresses, new ones; what is no list of the store stays -/
structure Step (m : Mm) (H : Hp) (m' : Mm) (H' : Hp) : Prop where
  pre : ∃ l, m'.ix = m.ix ++ l
  exo : ∀ a ∈ m.ex, a ∈ m'.ex
  exn : ∀ a ∈ m'.ex, a ∉ m.ex → a ∉ m.ix → Nil H a
  new : ∀ a ∈ m'.ix, a ∉ m.ix → Nil H a
  keep : ∀ a o, a ∉ m.ix → H a = some o → NT o → H' a = some o
  tup : ∀ a xs, H a = some (.tup xs) → H' a = some (.tup xs)
  frz : ∀ a o u, H a = some (.frz o u) → H' a = some (.frz o u)
theorem Step.refl (m : Mm) (H : Hp) : Step m H m H := ⟨⟨[], by simp⟩, fun _ h => h, fun a h1 h2 => absurd h1 h2, fun a h1 h2 => absurd h1 h2, fun _ _ _ e _ => e, fun _ _ e => e, fun _ _ _ e => e⟩
theorem Step.old {m m' : Mm} {H H' : Hp} (s : Step m H m' H') {x : Addr} {o : HO} (h : x ∉ m.ix) (e : H x = some o) (n : NT o) : x ∉ m'.ix := fun q => s.new x q h o e n
theorem Step.no {m m' : Mm} {H H' : Hp} (s : Step m H m' H') {x : Addr} {o : HO} (h : m.no x) (e : H x = some o) (n : NT o) : m'.no x := ⟨s.old h.1 e n, fun q => s.exn x q h.2 h.1 o e n⟩
theorem Step.trans {m m1 m2 : Mm} {H H1 H2 : Hp} (a : Step m H m1 H1) (b : Step m1 H1 m2 H2) : Step m H m2 H2 := by
  refine ⟨?_, fun x h => b.exo x (a.exo x h), fun x h1 h2 h3 o e n => ?_, fun x h1 h2 o e n => ?_, fun x o h e n => b.keep x o (a.old h e n) (a.keep x o h e n) n, fun x xs e => b.tup _ _ (a.tup _ _ e), fun x o u e => b.frz _ _ _ (a.frz _ _ _ e)⟩
  · obtain ⟨l, e⟩ := a.pre
    obtain ⟨l', e'⟩ := b.pre
    exact ⟨l ++ l', by rw [e', e, List.append_assoc]⟩
  · by_cases q : x ∈ m1.ex
    · exact a.exn x q h2 h3 o e n
    · by_cases q2 : x ∈ m1.ix
      · exact a.new x q2 h3 o e n
      · exact b.exn x h1 q q2 o (a.keep x o h3 e n) n
  · by_cases q : x ∈ m1.ix
    · exact a.new x q h2 o e n
    · exact b.new x h1 q o (a.keep x o h2 e n) n
theorem Step.get {m m' : Mm} {H H' : Hp} (s : Step m H m' H') {n : Nat} {a : Addr} (h : m.ix[n]? = some a) : m'.ix[n]? = some a := by
  obtain ⟨l, e⟩ := s.pre
  have hl := (List.getElem?_eq_some_iff.mp h).1
  rw [e, List.getElem?_append_left hl]
  exact h
theorem Step.emb {m m' : Mm} {H H' : Hp} (s : Step m H m' H') : Emb m H m' H' := ⟨fun _ _ h => s.get h, fun a o h e n => ⟨s.no h e n, s.keep a o h.1 e n⟩, s.tup, s.frz⟩
theorem nt_lst {vs : List V} : NT (.lst vs) := fun ps q => by cases q
theorem nt_dK {vs : List (Key × V)} : NT (.dK vs) := fun ps q => by cases q

theorem rd_frz {H H' : Hp} {a : Addr} {u : HO} (h1 : H a = some u → H' a = some u) (h2 : ∀ o, H a = some (.frz o u) → H' a = some (.frz o u)) (r : Rd H a u) : Rd H' a u := by
  rcases r with r | ⟨o, r⟩
  · exact .inl (h1 r)
  · exact .inr ⟨o, h2 o r⟩
theorem sqT_emb {g : Gm} {m m' : Mm} {H H' : Hp} {a : Addr} {vs : List V} (s : Emb m H m' H') (h : SqT g.K H a vs) : SqT g.K H' a vs := by
  rcases h with h | h
  · exact .inl (rd_frz (s.tup a vs) (fun o => s.frz a o _) h)
  · exact .inr h
theorem sqT_step {g : Gm} {m m' : Mm} {H H' : Hp} {a : Addr} {vs : List V} (s : Step m H m' H') (h : SqT g.K H a vs) : SqT g.K H' a vs := sqT_emb s.emb h
mutual
theorem Rep.emb {g : Gm} {m m' : Mm} {H H' : Hp} (s : Emb m H m' H') : ∀ (x : PV) (v : V), Rep g m H x v → Rep g m' H' x v
  | .non, _, h => h
  | .bl _, _, h => h
  | .int _, _, h => h
  | .str _, _, h => h
  | .tup xs, _, h => by
    unfold Rep at h ⊢
    obtain ⟨a, vs, e, h1, h2⟩ := h
    exact ⟨a, vs, e, sqT_emb s h1, RepL.emb s xs vs h2⟩
  | .nl xs, _, h => by
    unfold Rep at h ⊢
    obtain ⟨a, vs, e, h0, h1, h2⟩ := h
    obtain ⟨k1, k2⟩ := s.keep a _ h0 h1 nt_lst
    exact ⟨a, vs, e, k1, k2, RepL.emb s xs vs h2⟩
  | .fl xs, _, h => by
    unfold Rep at h ⊢
    obtain ⟨a, vs, e, h1, h2⟩ := h
    refine ⟨a, vs, e, ?_, RepL.emb s xs vs h2⟩
    rcases h1 with ⟨o, h1⟩ | h1
    · exact .inl ⟨o, s.frz a o _ h1⟩
    · exact .inr h1
  | .nd ks xs, _, h => by
    unfold Rep at h ⊢
    obtain ⟨a, vs, e, h0, h1, h3, h2⟩ := h
    obtain ⟨k1, k2⟩ := s.keep a _ h0 h1 nt_dK
    exact ⟨a, vs, e, k1, k2, h3, RepL.emb s xs vs h2⟩
  | .ref n, _, h => by
    unfold Rep at h ⊢
    obtain ⟨a, h1, h2⟩ := h
    exact ⟨a, s.get n a h1, h2⟩
  | .ty _, _, h => h
  | .glb _, _, h => by
    unfold Rep at h ⊢
    exact h
  | .err, _, h => by
    unfold Rep at h ⊢
    exact h
  | .lam, _, h => by
    unfold Rep at h ⊢
    obtain ⟨i, h1, h2, h3⟩ := h
    exact ⟨i, h1, h2, i.st _ _ _ _ s h3⟩
theorem RepL.emb {g : Gm} {m m' : Mm} {H H' : Hp} (s : Emb m H m' H') : ∀ (xs : List PV) (vs : List V), RepL g m H xs vs → RepL g m' H' xs vs
  | [], _, h => h
  | x :: xs, _, h => by
    unfold RepL at h ⊢
    obtain ⟨v, ws, e, h1, h2⟩ := h
    exact ⟨v, ws, e, Rep.emb s x v h1, RepL.emb s xs ws h2⟩
end
theorem Rep.step {g : Gm} {m m' : Mm} {H H' : Hp} (s : Step m H m' H') (x : PV) (v : V) (h : Rep g m H x v) : Rep g m' H' x v := Rep.emb s.emb x v h
theorem RepL.step {g : Gm} {m m' : Mm} {H H' : Hp} (s : Step m H m' H') (xs : List PV) (vs : List V) (h : RepL g m H xs vs) : RepL g m' H' xs vs := RepL.emb s.emb xs vs h
mutual
theorem Rep.up {g : Gm} {m : Mm} {H : Hp} : ∀ (x : PV) (v : V), Rep g.bare m H x v → Rep g m H x v
  | .non, _, h => h
  | .bl _, _, h => h
  | .int _, _, h => h
  | .str _, _, h => h
  | .tup xs, _, h => by
    unfold Rep at h ⊢
    obtain ⟨a, vs, e, h1, h2⟩ := h
    exact ⟨a, vs, e, h1, RepL.up xs vs h2⟩
  | .nl xs, _, h => by
    unfold Rep at h ⊢
    obtain ⟨a, vs, e, h0, h1, h2⟩ := h
    exact ⟨a, vs, e, h0, h1, RepL.up xs vs h2⟩
  | .fl xs, _, h => by
    unfold Rep at h ⊢
    obtain ⟨a, vs, e, h1, h2⟩ := h
    exact ⟨a, vs, e, h1, RepL.up xs vs h2⟩
  | .nd ks xs, _, h => by
    unfold Rep at h ⊢
    obtain ⟨a, vs, e, h0, h1, h3, h2⟩ := h
    exact ⟨a, vs, e, h0, h1, h3, RepL.up xs vs h2⟩
  | .ref n, _, h => by
    unfold Rep at h ⊢
    exact h
  | .ty _, _, h => h
  | .glb _, _, h => by
    unfold Rep at h ⊢
    exact h
  | .err, _, h => by
    unfold Rep at h
    obtain ⟨a, h1, _⟩ := h
    cases h1
  | .lam, _, h => by
    unfold Rep at h
    obtain ⟨i, h1, _⟩ := h
    cases h1
theorem RepL.up {g : Gm} {m : Mm} {H : Hp} : ∀ (xs : List PV) (vs : List V), RepL g.bare m H xs vs → RepL g m H xs vs
  | [], _, h => h
  | x :: xs, _, h => by
    unfold RepL at h ⊢
    obtain ⟨v, ws, e, h1, h2⟩ := h
    exact ⟨v, ws, e, Rep.up x v h1, RepL.up xs ws h2⟩
end
theorem RepL.length {g : Gm} {m : Mm} {H : Hp} : ∀ {xs : List PV} {vs : List V}, RepL g m H xs vs → xs.length = vs.length
  | [], _, h => by unfold RepL at h; subst h; rfl
  | x :: xs, _, h => by
    unfold RepL at h
    obtain ⟨v, ws, rfl, _, h2⟩ := h
    rw [List.length_cons, List.length_cons, RepL.length h2]
theorem RepL.nil {g : Gm} {m : Mm} {H : Hp} : RepL g m H [] [] := rfl
theorem RepL.cons {g : Gm} {m : Mm} {H : Hp} {x : PV} {xs : List PV} {v : V} {vs : List V} (h : Rep g m H x v) (t : RepL g m H xs vs) : RepL g m H (x :: xs) (v :: vs) := by
  unfold RepL
  exact ⟨v, vs, rfl, h, t⟩
theorem RepL.get {g : Gm} {m : Mm} {H : Hp} : ∀ {xs : List PV} {vs : List V} {i : Nat} {x : PV}, RepL g m H xs vs → xs[i]? = some x → ∃ v, vs[i]? = some v ∧ Rep g m H x v
  | [], _, _, _, _, e => by simp at e
  | y :: ys, _, 0, x, h, e => by
    unfold RepL at h
    obtain ⟨v, ws, rfl, h1, _⟩ := h
    simp at e; subst e
    exact ⟨v, rfl, h1⟩
  | y :: ys, _, i + 1, x, h, e => by
    unfold RepL at h
    obtain ⟨v, ws, rfl, _, h2⟩ := h
    obtain ⟨w, e1, e2⟩ := RepL.get (i := i) (x := x) h2 (by simpa using e)
    exact ⟨w, by simpa using e1, e2⟩
theorem RepL.append {g : Gm} {m : Mm} {H : Hp} : ∀ {xs ys : List PV} {vs ws : List V}, RepL g m H xs vs → RepL g m H ys ws → RepL g m H (xs ++ ys) (vs ++ ws)
  | [], _, _, _, h, t => by unfold RepL at h; subst h; exact t
  | x :: xs, ys, _, ws, h, t => by
    unfold RepL at h
    obtain ⟨v, us, rfl, h1, h2⟩ := h
    exact RepL.cons h1 (RepL.append h2 t)
theorem RepL.set {g : Gm} {m : Mm} {H : Hp} {x : PV} {v : V} (hx : Rep g m H x v) : ∀ {xs : List PV} {vs : List V} (i : Nat), RepL g m H xs vs → RepL g m H (xs.set i x) (vs.set i v)
  | [], _, _, h => by unfold RepL at h; subst h; exact RepL.nil
  | y :: ys, _, 0, h => by
    unfold RepL at h
    obtain ⟨u, us, rfl, h1, h2⟩ := h
    exact RepL.cons hx h2
  | y :: ys, _, i + 1, h => by
    unfold RepL at h
    obtain ⟨u, us, rfl, h1, h2⟩ := h
    exact RepL.cons h1 (RepL.set hx i h2)
theorem RepL.take {g : Gm} {m : Mm} {H : Hp} : ∀ {xs : List PV} {vs : List V} (n : Nat), RepL g m H xs vs → RepL g m H (xs.take n) (vs.take n)
  | _, _, 0, _ => by simp only [List.take_zero]; exact RepL.nil
  | [], _, n + 1, h => by unfold RepL at h; subst h; exact RepL.nil
  | y :: ys, _, n + 1, h => by
    unfold RepL at h
    obtain ⟨u, us, rfl, h1, h2⟩ := h
    exact RepL.cons h1 (RepL.take n h2)
theorem RepL.drop {g : Gm} {m : Mm} {H : Hp} : ∀ {xs : List PV} {vs : List V} (n : Nat), RepL g m H xs vs → RepL g m H (xs.drop n) (vs.drop n)
  | _, _, 0, h => h
  | [], _, n + 1, h => by unfold RepL at h; subst h; exact RepL.nil
  | y :: ys, _, n + 1, h => by
    unfold RepL at h
    obtain ⟨u, us, rfl, h1, h2⟩ := h
    exact RepL.drop (xs := ys) (vs := us) n h2

/-- the store -/
structure RelS (g : Gm) (m : Mm) (S : Sto) (H : Hp) : Prop where
  len : m.ix.length = S.length
  nd : m.ix.Nodup
  exs : ∀ a ∈ m.ex, a ∉ m.ix ∧ ∃ vs, H a = some (HO.lst vs)
  at_ : ∀ (n : Nat) (xs : List PV), S[n]? = some (SO.lst xs) → ∃ a vs, m.ix[n]? = some a ∧ H a = some (HO.lst vs) ∧ RepL g.bare m H xs vs
  tab : LamX.Tabs g.T.tabs H
/-- the names -/
structure RelE (g : Gm) (m : Mm) (H : Hp) (ρ : EnP) (σ : L2.St) : Prop where
  len : ρ.length = σ.length
  at_ : ∀ (i : Nat) (v : PV), ρ[i]? = some (some v) → ∃ w, σ[i]? = some (some w) ∧ Rep g m H v w
theorem RelE.step {g : Gm} {m m' : Mm} {H H' : Hp} {ρ : EnP} {σ : L2.St} (s : Step m H m' H') (r : RelE g m H ρ σ) : RelE g m' H' ρ σ :=
  ⟨r.len, fun i v e => let ⟨w, e1, e2⟩ := r.at_ i v e; ⟨w, e1, Rep.step s _ _ e2⟩⟩
theorem RelE.set {g : Gm} {m : Mm} {H : Hp} {ρ : EnP} {σ : L2.St} {v : PV} {w : V} (r : RelE g m H ρ σ) (i : Nat) (h : Rep g m H v w) : RelE g m H (ρ.set i (some v)) (σ.set i (some w)) := by
  refine ⟨by rw [List.length_set, List.length_set, r.len], fun j u e => ?_⟩
  by_cases hj : i = j
  · subst hj
    by_cases hi : i < ρ.length
    · rw [List.getElem?_set_self hi] at e
      cases e
      exact ⟨w, by rw [List.getElem?_set_self (by rw [← r.len]; exact hi)], h⟩
    · rw [List.getElem?_eq_none (by simpa using hi)] at e; cases e
  · rw [List.getElem?_set_ne hj] at e ⊢
    exact r.at_ j u e

/-- an error: its class by its name, its fields -/
def RepF (g : Gm) (m : Mm) (H : Hp) : List (Str × PV) → List (Str × V) → Prop
  | [], ws => ws = []
  | (f, x) :: r, ws => ∃ v us, ws = (f, v) :: us ∧ Rep g m H x v ∧ RepF g m H r us
def ExcR (g : Gm) (m : Mm) (H : Hp) (c : Str) (fs : List (Str × PV)) (cls : Value) (dd : Option Addr) : Prop :=
  ∃ C, g.mg c = some (.ref C) ∧ cls = .ref C ∧ (fs = [] → dd = none) ∧ (fs ≠ [] → ∃ d ws, dd = some d ∧ H d = some (.xd ws) ∧ RepF g m H fs ws)

/-- what is to be shown of an answer -/
def PostR {α β : Type} (g : Gm) (W : WX) (σ : L2.St) (m : Mm) (H : Hp) (R : Mm → Hp → α → β → Prop) (Q : β → Hp → Prop) : Res α → Prop
  | .ok a S' => ∀ m' H' w, Step m H m' H' → RelS g m' S' H' → R m' H' a w → Q w H'
  | .exc c fs S' => ∀ m' H' cls dd, Step m H m' H' → RelS g m' S' H' → ExcR g m' H' c fs cls dd → W cls dd σ H'
  | .bad => False
abbrev PostV (g : Gm) (W : WX) (σ : L2.St) (m : Mm) (H : Hp) (Q : VK) : Res PV → Prop := PostR g W σ m H (fun m' H' => Rep g m' H') Q
abbrev PostL (g : Gm) (W : WX) (σ : L2.St) (m : Mm) (H : Hp) (Q : List V → Hp → Prop) : Res (List PV) → Prop := PostR g W σ m H (fun m' H' => RepL g m' H') Q
abbrev PostB (g : Gm) (W : WX) (σ : L2.St) (m : Mm) (H : Hp) (Q : Bool → Hp → Prop) : Res Bool → Prop := PostR g W σ m H (fun _ _ b c => b = c) Q
theorem PostR.step {α β : Type} {g : Gm} {W : WX} {σ : L2.St} {m m1 : Mm} {H H1 : Hp} {R : Mm → Hp → α → β → Prop} {Q : β → Hp → Prop} {r : Res α} (s : Step m H m1 H1) (p : PostR g W σ m H R Q r) : PostR g W σ m1 H1 R Q r := by
  cases r with
  | ok a S => exact fun m' H' w s' h1 h2 => p m' H' w (s.trans s') h1 h2
  | exc c fs S => exact fun m' H' cls dd s' h1 h2 => p m' H' cls dd (s.trans s') h1 h2
  | bad => exact p

/-! ### judgements -/
def tr {α β : Type} (g : Gm) (W : WX) (R : Mm → Hp → α → β → Prop) (d : EnP → Sto → Res α) : L2.St → Hp → (β → Hp → Prop) → Prop :=
  fun σ H Q => ∃ ρ S m, RelE g m H ρ σ ∧ RelS g m S H ∧ PostR g W σ m H R Q (d ρ S)
abbrev tv (g : Gm) (W : WX) (d : EnP → Sto → Res PV) : TE := tr g W (fun m' H' => Rep g m' H') d
abbrev tl (g : Gm) (W : WX) (d : EnP → Sto → Res (List PV)) : TA := tr g W (fun m' H' => RepL g m' H') d
abbrev tb (g : Gm) (W : WX) (d : EnP → Sto → Res Bool) : TT := tr g W (fun _ _ b c => b = c) d
abbrev gm (X : Cx) (T : Tb) : Gm := ⟨X.K, X.mg, T, X.A.handled⟩
/-- where one stands -/
structure Ctx (X : Cx) (k : Nat) (W : WX) : Prop where
  room : Room k X.A
  gd : X.A.guards = some []
  calm : X.calm = true
  tk : Takes X W
  po : PassesOwn (model X.prog X.w) X.A X.env X.xe
abbrev CE (X : Cx) (T : Tb) (W : WX) (e : Expr) (d : EnP → Sto → Res PV) : Prop := PE X e (tv (gm X T) W d)
abbrev CA (X : Cx) (T : Tb) (W : WX) (es : List Expr) (d : EnP → Sto → Res (List PV)) : Prop := PA X es (tl (gm X T) W d)
abbrev CT (X : Cx) (T : Tb) (W : WX) (e : Expr) (d : EnP → Sto → Res Bool) : Prop := PT X e (tb (gm X T) W d)
abbrev CW (X : Cx) (T : Tb) (W : WX) (e : Expr) (d : EnP → Sto → Res Bool) : Prop := PW X e (tb (gm X T) W d)
def PostS (g : Gm) (W : WX) (D : Ends) (m : Mm) (H : Hp) : SR → Prop
  | .nx ρ S => ∀ m' H' σ', Step m H m' H' → RelS g m' S H' → RelE g m' H' ρ σ' → D.nx σ' H'
  | .bk ρ S => ∀ m' H' σ', Step m H m' H' → RelS g m' S H' → RelE g m' H' ρ σ' → D.bk σ' H'
  | .ct ρ S => ∀ m' H' σ', Step m H m' H' → RelS g m' S H' → RelE g m' H' ρ σ' → D.ct σ' H'
  | .rt v S => ∀ m' H' w, Step m H m' H' → RelS g m' S H' → Rep g m' H' v w → D.rt w H'
  | .exc c fs ρ S => ∀ m' H' σ' cls dd, Step m H m' H' → RelS g m' S H' → RelE g m' H' ρ σ' → ExcR g m' H' c fs cls dd → W cls dd σ' H'
  | .bad => False
theorem PostS.step {g : Gm} {W : WX} {D : Ends} {m m1 : Mm} {H H1 : Hp} {r : SR} (s : Step m H m1 H1) (p : PostS g W D m H r) : PostS g W D m1 H1 r := by
  cases r with
  | nx ρ S => exact fun m' H' σ' s' h1 h2 => p m' H' σ' (s.trans s') h1 h2
  | bk ρ S => exact fun m' H' σ' s' h1 h2 => p m' H' σ' (s.trans s') h1 h2
  | ct ρ S => exact fun m' H' σ' s' h1 h2 => p m' H' σ' (s.trans s') h1 h2
  | rt v S => exact fun m' H' w s' h1 h2 => p m' H' w (s.trans s') h1 h2
  | exc c fs ρ S => exact fun m' H' σ' cls dd s' h1 h2 h3 => p m' H' σ' cls dd (s.trans s') h1 h2 h3
  | bad => exact p
def ts (g : Gm) (W : WX) (d : EnP → Sto → SR) : TS := fun D σ H => ∃ ρ S m, RelE g m H ρ σ ∧ RelS g m S H ∧ PostS g W D m H (d ρ S)
abbrev CS (X : Cx) (T : Tb) (W : WX) (st : Stmt) (d : EnP → Sto → SR) : Prop := PS X st (ts (gm X T) W d)
abbrev CSs (X : Cx) (T : Tb) (W : WX) (st : List Stmt) (d : EnP → Sto → SR) : Prop := PSs X st (ts (gm X T) W d)

/-! ### weakening -/
theorem pe_imp {X : Cx} {e : Expr} {t t' : TE} (h : PE X e t) (w : ∀ σ H Q, t' σ H Q → t σ H Q) : PE X e t' := ⟨fun pins s σ H Q I q => h.run pins s σ H Q I (w σ H Q q)⟩
theorem pt_imp {X : Cx} {e : Expr} {t t' : TT} (h : PT X e t) (w : ∀ σ H Q, t' σ H Q → t σ H Q) : PT X e t' := ⟨fun pins s σ H Q I q => h.run pins s σ H Q I (w σ H Q q)⟩
theorem pw_imp {X : Cx} {e : Expr} {t t' : TT} (h : PW X e t) (w : ∀ σ H Q, t' σ H Q → t σ H Q) : PW X e t' := ⟨fun wh pins s σ H Q I q => h.run wh pins s σ H Q I (w σ H Q q)⟩
theorem pa_imp {X : Cx} {e : List Expr} {t t' : TA} (h : PA X e t) (w : ∀ σ H Q, t' σ H Q → t σ H Q) : PA X e t' := ⟨fun pos pins s σ H Q I q => h.run pos pins s σ H Q I (w σ H Q q)⟩
theorem ps_imp {X : Cx} {e : Stmt} {t t' : TS} (h : PS X e t) (w : ∀ D σ H, t' D σ H → t D σ H) : PS X e t' := ⟨fun pins s σ H D I q => h.run pins s σ H D I (w D σ H q)⟩
theorem pss_imp {X : Cx} {e : List Stmt} {t t' : TS} (h : PSs X e t) (w : ∀ D σ H, t' D σ H → t D σ H) : PSs X e t' := ⟨fun pins s σ H D I q => h.run pins s σ H D I (w D σ H q)⟩

/-- two readings in a row: from that of the first to that of the rest -/
theorem tr_bind {α β α' β' : Type} {g : Gm} {W : WX} {R : Mm → Hp → α → β → Prop} {R' : Mm → Hp → α' → β' → Prop} {d : EnP → Sto → Res α} {f : α → EnP → Sto → Res α'} {σ : L2.St} {H : Hp} {Q : β' → Hp → Prop} {ρ : EnP} {S : Sto} {m : Mm}
    (hE : RelE g m H ρ σ) (hS : RelS g m S H) (p : PostR g W σ m H R' Q ((d ρ S).bind fun a S1 => f a ρ S1)) {Q1 : β → Hp → Prop}
    (h : ∀ a S1 m1 H1 w, Step m H m1 H1 → RelE g m1 H1 ρ σ → RelS g m1 S1 H1 → R m1 H1 a w → PostR g W σ m1 H1 R' Q (f a ρ S1) → Q1 w H1) : tr g W R d σ H Q1 := by
  refine ⟨ρ, S, m, hE, hS, ?_⟩
  cases hd : d ρ S with
  | ok a S1 =>
    rw [hd] at p
    exact fun m' H' w s h1 h2 => h a S1 m' H' w s (hE.step s) h1 h2 (PostR.step s p)
  | exc c fs S1 =>
    rw [hd] at p
    exact fun m' H' cls dd s h1 h2 => p m' H' cls dd s h1 h2
  | bad =>
    rw [hd] at p
    exact p.elim
/-- an answer that is there at once -/
theorem PostR.here {α β : Type} {g : Gm} {W : WX} {σ : L2.St} {m : Mm} {H : Hp} {R : Mm → Hp → α → β → Prop} {Q : β → Hp → Prop} {a : α} {S : Sto} {w : β} (p : PostR g W σ m H R Q (.ok a S)) (hS : RelS g m S H) (r : R m H a w) : Q w H := p m H w (Step.refl m H) hS r
end Mi
end
section
set_option Elab.async false
set_option linter.all false
set_option maxRecDepth 100000
set_option maxHeartbeats 2000000
namespace Mi
open PySem PySem.Spec PyProof.Rows L2

/-! ### new objects -/
abbrev Mm.push (m : Mm) (p : Addr) : Mm := ⟨m.ix ++ [p], m.ex⟩
section
variable {g : Gm} {m : Mm} {S : Sto} {H : Hp} {p : Addr}
theorem RelS.tracked (h : RelS g m S H) {a : Addr} (ha : a ∈ m.ix) : ∃ xs, H a = some (HO.lst xs) := by
  obtain ⟨n, hn, e⟩ := List.getElem_of_mem ha
  have hs : n < S.length := by rw [← h.len]; exact hn
  cases q : S[n] with
  | lst xs =>
    obtain ⟨b, vs, e1, e2, _⟩ := h.at_ n xs (by rw [List.getElem?_eq_getElem hs, q])
    rw [List.getElem?_eq_getElem hn] at e1
    have e3 := Option.some.inj e1
    rw [← e3, e] at e2
    exact ⟨vs, e2⟩
theorem RelS.fresh (h : RelS g m S H) (hp : H p = none) : m.no p := by
  refine ⟨fun q => ?_, fun q => by obtain ⟨_, vs, e⟩ := h.exs p q; rw [hp] at e; cases e⟩
  obtain ⟨xs, e⟩ := h.tracked q
  rw [hp] at e
  cases e
theorem nil_of (hp : H p = none) : Nil H p := fun o e => by rw [hp] at e; cases e
theorem step_new {o : HO} (hp : H p = none) : Step m H m (upd H p o) :=
  ⟨⟨[], by simp⟩, fun _ h => h, fun a h1 h2 => absurd h1 h2, fun a h1 h2 => absurd h1 h2, fun a u _ e _ => by rw [upd_ne (ne_of_none e hp)]; exact e, fun a u e => by rw [upd_ne (ne_of_none e hp)]; exact e, fun a o u e => by rw [upd_ne (ne_of_none e hp)]; exact e⟩
theorem step_alloc {o : HO} (hp : H p = none) : Step m H (m.push p) (upd H p o) :=
  ⟨⟨[p], rfl⟩, fun _ h => h, fun a h1 h2 => absurd h1 h2, fun a h1 h2 => by
      rcases List.mem_append.mp h1 with z | z
      · exact absurd z h2
      · rw [List.mem_singleton.mp z]; exact nil_of hp,
    (step_new hp (m := m)).keep, (step_new hp (m := m)).tup, (step_new hp (m := m)).frz⟩
theorem tabs_new {T : List (Addr × Str)} {o : HO} (hp : H p = none) (t : LamX.Tabs T H) : LamX.Tabs T (upd H p o) := t.ext fun b u e => by rw [upd_ne (ne_of_none e hp)]; exact e
theorem RelS.new {o : HO} (h : RelS g m S H) (hp : H p = none) : RelS g m S (upd H p o) :=
  ⟨h.len, h.nd, fun a ha => ⟨(h.exs a ha).1, (h.exs a ha).2.imp fun vs e => by rw [upd_ne (ne_of_none e hp)]; exact e⟩, fun n xs e => by
    obtain ⟨a, vs, e1, e2, e3⟩ := h.at_ n xs e
    exact ⟨a, vs, e1, by rw [upd_ne (ne_of_none e2 hp)]; exact e2, RepL.step (step_new hp) _ _ e3⟩, tabs_new hp h.tab⟩
theorem RelS.alloc {xs : List PV} {vs : List V} (hb : Bare g) (h : RelS g m S H) (hp : H p = none) (r : RepL g m H xs vs) : RelS g (m.push p) (S ++ [SO.lst xs]) (upd H p (HO.lst vs)) := by
  refine ⟨by simp [h.len], ?_, fun a ha => ⟨fun q => ?_, (h.exs a ha).2.imp fun vs e => by rw [upd_ne (ne_of_none e hp)]; exact e⟩, fun n ys e => ?_, tabs_new hp h.tab⟩
  · rw [List.nodup_append]
    refine ⟨h.nd, by simp, fun a ha b hb q => ?_⟩
    rw [List.mem_singleton.mp hb] at q
    exact (h.fresh hp).1 (by rw [← q]; exact ha)
  · rcases List.mem_append.mp q with z | z
    · exact (h.exs a ha).1 z
    · obtain ⟨_, e⟩ := (h.exs a ha).2
      rw [List.mem_singleton.mp z, hp] at e
      cases e
  · by_cases hn : n < S.length
    · rw [List.getElem?_append_left hn] at e
      obtain ⟨a, us, e1, e2, e3⟩ := h.at_ n ys e
      exact ⟨a, us, by rw [List.getElem?_append_left (by rw [h.len]; exact hn)]; exact e1, by rw [upd_ne (ne_of_none e2 hp)]; exact e2, RepL.step (step_alloc hp) _ _ e3⟩
    · rw [List.getElem?_append_right (by omega)] at e
      have hz : n - S.length = 0 := by
        have z := (List.getElem?_eq_some_iff.mp e).1
        simp at z; omega
      rw [hz] at e
      cases e
      refine ⟨p, vs, ?_, upd_same, by rw [hb]; exact RepL.step (step_alloc hp) _ _ r⟩
      rw [List.getElem?_append_right (by rw [h.len]; omega), h.len, hz]
      rfl
/-- a list of the store is written -/
theorem step_write {a : Addr} {vs us : List V} (ha : a ∈ m.ix) (h : H a = some (HO.lst vs)) : Step m H m (upd H a (HO.lst us)) :=
  ⟨⟨[], by simp⟩, fun _ h => h, fun a h1 h2 => absurd h1 h2, fun a h1 h2 => absurd h1 h2, fun b u nb e _ => by rw [upd_ne (fun q : b = a => nb (by rw [q]; exact ha))]; exact e,
    fun b u e => by rw [upd_ne (ne_of e h (fun z => by cases z))]; exact e, fun b o u e => by rw [upd_ne (ne_of e h (fun z => by cases z))]; exact e⟩
theorem tabs_write {T : List (Addr × Str)} {a : Addr} {vs us : List V} (h : H a = some (HO.lst vs)) (t : LamX.Tabs T H) : LamX.Tabs T (upd H a (HO.lst us)) := fun q hq => by
  obtain ⟨ps, h1, h2, h3⟩ := t q hq
  refine ⟨ps, by rw [upd_ne (ne_of h1 h (fun z => by cases z))]; exact h1, h2, fun pos cv hc => ?_⟩
  obtain ⟨c, e1, e2⟩ := h3 pos cv hc
  exact ⟨c, e1, by rw [upd_ne (ne_of e2 h (fun z => by unfold LamX.CodeO at z; cases z))]; exact e2⟩
theorem RelS.write {n : Nat} {a : Addr} {xs : List PV} {vs us : List V} (hb : Bare g) (h : RelS g m S H) (hn : m.ix[n]? = some a) (hs : n < S.length) (hH : H a = some (HO.lst vs)) (r : RepL g m H xs us) : RelS g m (S.set n (SO.lst xs)) (upd H a (HO.lst us)) := by
  have ha : a ∈ m.ix := List.mem_of_getElem? hn
  refine ⟨by rw [List.length_set]; exact h.len, h.nd, fun b hx => ⟨(h.exs b hx).1, (h.exs b hx).2.imp fun vs e => by rw [upd_ne (fun q : b = a => (h.exs b hx).1 (by rw [q]; exact ha))]; exact e⟩, fun k ys e => ?_, tabs_write hH h.tab⟩
  by_cases hk : n = k
  · subst hk
    rw [List.getElem?_set_self hs] at e
    cases e
    exact ⟨a, us, hn, upd_same, by rw [hb]; exact RepL.step (step_write ha hH) _ _ r⟩
  · rw [List.getElem?_set_ne hk] at e
    obtain ⟨b, ws, e1, e2, e3⟩ := h.at_ k ys e
    have nb : b ≠ a := fun q => by
      rw [q] at e1
      have l1 := (List.getElem?_eq_some_iff.mp hn).1
      exact hk ((List.getElem?_inj l1 h.nd).mp (hn.trans e1.symm))
    exact ⟨b, ws, e1, by rw [upd_ne nb]; exact e2, RepL.step (step_write ha hH) _ _ e3⟩
end

/-- most items -/
abbrev lim : Nat := 16777216
theorem lim_line {n : Nat} (h : n ≤ lim) : n ≤ sizeLine := by rw [sizeLine_eq]; exact h
def mkTup (xs : List PV) (S : Sto) : Res PV := if xs.length ≤ lim then .ok (.tup xs) S else .bad
/-- a new list: one of the store (mt), or one that nobody will change -/
def mkLst (mt : Bool) (xs : List PV) (S : Sto) : Res PV := if xs.length ≤ lim then (if mt = true then .ok (.ref S.length) (S ++ [SO.lst xs]) else .ok (.nl xs) S) else .bad
section
variable {g : Gm} {W : WX} {σ : L2.St} {m : Mm} {S : Sto} {H : Hp} {Q : VK} {xs : List PV} {vs : List V}
theorem new_tup (hS : RelS g m S H) (r : RepL g m H xs vs) (p : PostV g W σ m H Q (mkTup xs S)) : vs.length ≤ sizeLine ∧ ∀ p, H p = none → Q (.ref p) (upd H p (HO.tup vs)) := by
  unfold mkTup at p
  split at p
  · rename_i h
    refine ⟨by rw [← r.length]; exact lim_line h, fun a ha => p m _ _ (step_new ha) (hS.new ha) ?_⟩
    show Rep g m _ (.tup xs) _
    unfold Rep
    exact ⟨a, vs, rfl, .inl (.inl upd_same), RepL.step (step_new ha) _ _ r⟩
  · exact p.elim
theorem new_lst {mt : Bool} (hb : mt = true → Bare g) (hS : RelS g m S H) (r : RepL g m H xs vs) (p : PostV g W σ m H Q (mkLst mt xs S)) : vs.length ≤ sizeLine ∧ ∀ p, H p = none → Q (.ref p) (upd H p (HO.lst vs)) := by
  unfold mkLst at p
  split at p
  · rename_i h
    refine ⟨by rw [← r.length]; exact lim_line h, fun a ha => ?_⟩
    cases mt with
    | true =>
      refine p (m.push a) _ _ (step_alloc ha) (hS.alloc (hb rfl) ha r) ?_
      show Rep g _ _ (.ref S.length) _
      unfold Rep
      exact ⟨a, by rw [List.getElem?_append_right (by rw [hS.len]; omega), hS.len]; simp, rfl⟩
    | false =>
      refine p m _ _ (step_new ha) (hS.new ha) ?_
      show Rep g _ _ (.nl xs) _
      unfold Rep
      exact ⟨a, vs, rfl, hS.fresh ha, upd_same, RepL.step (step_new ha) _ _ r⟩
  · exact p.elim
end

/-! ### lists and tuples that are read -/
/-- the items of a list that stands in the heap by itself -/
def lstT : PV → Sto → Option (List PV)
  | .nl xs, _ => some xs
  | .ref n, S => match S[n]? with
    | some (SO.lst xs) => some xs
    | none => none
  | _, _ => none
def lstOf : PV → Sto → Option (List PV)
  | .fl xs, _ => some xs
  | v, S => lstT v S
def tupOf : PV → Option (List PV)
  | .tup xs => some xs
  | _ => none
def seqOf (v : PV) (S : Sto) : Option (List PV) := match tupOf v with
  | some xs => some xs
  | none => lstOf v S
section
variable {g : Gm} {m : Mm} {S : Sto} {H : Hp} {x : PV} {v : V} {xs : List PV}
theorem lstT_rep (hS : RelS g m S H) (r : Rep g m H x v) (h : lstT x S = some xs) : ∃ a vs, v = .ref a ∧ H a = some (HO.lst vs) ∧ RepL g m H xs vs := by
  cases x with
  | nl ys =>
    unfold lstT at h
    cases h
    unfold Rep at r
    obtain ⟨a, vs, e, _, h1, h2⟩ := r
    exact ⟨a, vs, e, h1, h2⟩
  | ref n =>
    simp only [lstT] at h
    unfold Rep at r
    obtain ⟨a, e1, e2⟩ := r
    cases q : S[n]? with
    | none => rw [q] at h; cases h
    | some o =>
      cases o with
      | lst ys =>
        rw [q] at h
        have h : some ys = some xs := h
        obtain ⟨b, vs, f1, f2, f3⟩ := hS.at_ n ys q
        cases h
        rw [e1] at f1; cases f1
        exact ⟨a, vs, e2, f2, RepL.up _ _ f3⟩
  | _ => unfold lstT at h; cases h
theorem lstOf_rep (hS : RelS g m S H) (r : Rep g m H x v) (h : lstOf x S = some xs) : ∃ a vs, v = .ref a ∧ SqL g.K H a vs ∧ RepL g m H xs vs := by
  have other : lstT x S = some xs → ∃ a vs, v = .ref a ∧ SqL g.K H a vs ∧ RepL g m H xs vs := fun h => by
    obtain ⟨a, vs, e, h1, h2⟩ := lstT_rep hS r h
    exact ⟨a, vs, e, .inl (.inl h1), h2⟩
  cases x with
  | fl ys =>
    unfold lstOf at h
    cases h
    unfold Rep at r
    obtain ⟨a, vs, e, h1, h2⟩ := r
    refine ⟨a, vs, e, ?_, h2⟩
    rcases h1 with ⟨o, h1⟩ | h1
    · exact .inl (.inr ⟨o, h1⟩)
    · rcases h1 with h1 | h1
      · rcases h1 with h1 | ⟨o, h1⟩ <;> cases h1
      · exact .inr h1
  | _ => exact other h
theorem tup_rep (r : Rep g m H (.tup xs) v) : ∃ a vs, v = .ref a ∧ SqT g.K H a vs ∧ RepL g m H xs vs := by
  unfold Rep at r
  exact r
theorem seqOf_rep (hS : RelS g m S H) (r : Rep g m H x v) (h : seqOf x S = some xs) : ∃ a vs, v = .ref a ∧ (SqL g.K H a vs ∨ SqT g.K H a vs) ∧ RepL g m H xs vs := by
  cases x with
  | tup ys =>
    unfold seqOf at h
    have h : some ys = some xs := h
    cases h
    obtain ⟨a, vs, e, h1, h2⟩ := tup_rep r
    exact ⟨a, vs, e, .inr h1, h2⟩
  | _ =>
    obtain ⟨a, vs, e, h1, h2⟩ := lstOf_rep hS r h
    exact ⟨a, vs, e, .inl h1, h2⟩
theorem rep_int {i : Int} (r : Rep g m H (.int i) v) : v = .int i := by unfold Rep at r; exact r
theorem rep_bl {b : Bool} (r : Rep g m H (.bl b) v) : v = .bl b := by unfold Rep at r; exact r
theorem rep_str {b : Str} (r : Rep g m H (.str b) v) : v = .str b := by unfold Rep at r; exact r
theorem rep_non (r : Rep g m H .non v) : v = .non := by unfold Rep at r; exact r
theorem rep_ty {n : String} (r : Rep g m H (.ty n) v) : v = .ty n := by unfold Rep at r; exact r
theorem mk_int (i : Int) : Rep g m H (.int i) (.int i) := by unfold Rep; rfl
theorem mk_bl (i : Bool) : Rep g m H (.bl i) (.bl i) := by unfold Rep; rfl
theorem mk_str (i : Str) : Rep g m H (.str i) (.str i) := by unfold Rep; rfl
theorem mk_non : Rep g m H .non .non := by unfold Rep; rfl
theorem mk_ty (n : String) : Rep g m H (.ty n) (.ty n) := by unfold Rep; rfl
end

/-! ### names, constants -/
def dC (v : PV) : EnP → Sto → Res PV := fun _ S => .ok v S
def dV (i : Nat) : EnP → Sto → Res PV := fun ρ S => match ρ[i]? with
  | some (some v) => .ok v S
  | _ => .bad
section
variable {X : Cx} {T : Tb} {W : WX} {pos : Pos}
theorem ce_c {e : Expr} {v : V} {x : PV} (h : PE X e (tC v)) (r : ∀ m H, Rep (gm X T) m H x v) : CE X T W e (dC x) :=
  pe_imp h fun σ H Q ⟨ρ, S, m, _, hS, p⟩ => p m H v (Step.refl m H) hS (r m H)
theorem ce_int {i : Int} {j : Nat} : CE X T W (.Constant (.int i) j pos) (dC (.int i)) := ce_c pe_int fun _ _ => mk_int i
theorem ce_bl {i : Bool} {j : Nat} : CE X T W (.Constant (.bool i) j pos) (dC (.bl i)) := ce_c pe_bl fun _ _ => mk_bl i
theorem ce_str {i : Str} {j : Nat} : CE X T W (.Constant (.str i) j pos) (dC (.str i)) := ce_c pe_str fun _ _ => mk_str i
theorem ce_non {j : Nat} : CE X T W (.Constant .none j pos) (dC .non) := ce_c pe_non fun _ _ => mk_non
theorem ce_v (i : Nat) {x : Str} (hN : X.N[i]? = some x := by rfl) (hv : Vis X.env.scope x := by first | exact Or.inl rfl | exact Or.inr (Or.inl rfl) | exact Or.inr (Or.inr rfl)) (hd : (x == ("__debug__" : Str)) = false := by decide)
    (hcd : (x == ("__classdict__" : Str)) = false := by decide) : CE X T W (.Name x pos) (dV i) :=
  pe_imp (pe_var hN hv hd hcd) fun σ H Q ⟨ρ, S, m, hE, hS, p⟩ => by
    unfold dV at p
    split at p
    · rename_i v e
      obtain ⟨w, e1, e2⟩ := hE.at_ i v e
      exact ⟨w, e1, p m H w (Step.refl m H) hS e2⟩
    · exact p.elim
theorem ce_gint {x : Str} {i : Int} {t : Tok} (hg : Gl X x) (hm : X.mg x = some (.int i t)) (hd : (x == ("__debug__" : Str)) = false := by decide) : CE X T W (.Name x pos) (dC (.int i)) := ce_c (v := .int i) (pe_glob hg hm ⟨t, rfl⟩ hd) fun _ _ => mk_int i
theorem ce_gstr {x : Str} {i : Str} {t : Tok} (hg : Gl X x) (hm : X.mg x = some (.str i t)) (hd : (x == ("__debug__" : Str)) = false := by decide) : CE X T W (.Name x pos) (dC (.str i)) := ce_c (v := .str i) (pe_glob hg hm ⟨t, rfl⟩ hd) fun _ _ => mk_str i
theorem ce_gfn {x : Str} {f : Addr} (hg : Gl X x) (hm : X.mg x = some (.ref f)) (hd : (x == ("__debug__" : Str)) = false := by decide) : CE X T W (.Name x pos) (dC (.glb x)) :=
  ce_c (v := .ref f) (pe_glob hg hm rfl hd) fun _ _ => by unfold Rep; exact ⟨f, hm, rfl⟩
theorem ce_bty {x : Str} {n : String} (hg : Gl X x) (hm : X.mg x = none) (hv : bootBuiltins x = some (.type n)) (hn : x ≠ "__name__" := by decide) (hd : (x == ("__debug__" : Str)) = false := by decide) : CE X T W (.Name x pos) (dC (.ty n)) :=
  ce_c (v := .ty n) (pe_bltn hg hm hv rfl hn hd) fun _ _ => mk_ty n
end

/-! ### two operands -/
def dBin (f : PV → PV → Sto → Res PV) (da db : EnP → Sto → Res PV) : EnP → Sto → Res PV := fun ρ S => (da ρ S).bind fun x S1 => (db ρ S1).bind fun y S2 => f x y S2
def dUn (f : PV → Sto → Res PV) (da : EnP → Sto → Res PV) : EnP → Sto → Res PV := fun ρ S => (da ρ S).bind fun x S1 => f x S1
/-- an operation on trees is sound for one on values -/
def Snd (g : Gm) (r : R2) (f : PV → PV → Sto → Res PV) : Prop :=
  ∀ (W : WX) (σ : L2.St) (m : Mm) (S : Sto) (H : Hp) (x y : PV) (v u : V) (Q : VK), RelS g m S H → Rep g m H x v → Rep g m H y u → PostV g W σ m H Q (f x y S) → r v u H Q
def Snd1 (g : Gm) (r : V → Hp → VK → Prop) (f : PV → Sto → Res PV) : Prop :=
  ∀ (W : WX) (σ : L2.St) (m : Mm) (S : Sto) (H : Hp) (x : PV) (v : V) (Q : VK), RelS g m S H → Rep g m H x v → PostV g W σ m H Q (f x S) → r v H Q
section
variable {X : Cx} {T : Tb} {W : WX} {pos : Pos} {a b : Expr} {da db : EnP → Sto → Res PV} {f : PV → PV → Sto → Res PV} {r : R2}
theorem two_of (hs : Snd (gm X T) r f) {σ : L2.St} {H : Hp} {Q : VK} (h : tv (gm X T) W (dBin f da db) σ H Q) : tOp r (tv (gm X T) W da) (tv (gm X T) W db) σ H Q := by
  obtain ⟨ρ, S, m, hE, hS, p⟩ := h
  exact tr_bind (f := fun a ρ S1 => (db ρ S1).bind fun y S2 => f a y S2) hE hS p fun x S1 m1 H1 w s1 hE1 hS1 hr1 p1 => tr_bind (f := fun b ρ S2 => f x b S2) hE1 hS1 p1 fun y S2 m2 H2 w2 s2 hE2 hS2 hr2 p2 => hs W σ m2 S2 H2 x y w w2 Q hS2 (hr1.step s2) hr2 p2
theorem ce_bin {op : Operator} (ho : OpR X (binaryOp op) r) (hs : Snd (gm X T) r f) (ha : CE X T W a da) (hb : CE X T W b db) : CE X T W (.BinOp a op b pos) (dBin f da db) :=
  pe_imp (pe_op ho ha hb) fun σ H Q h => two_of hs h
theorem ce_cmp {op : CmpOp} (ho : OpR X (compareOp op) r) (hs : Snd (gm X T) r f) (ha : CE X T W a da) (hb : CE X T W b db) (hm : behindInMarks op b = false) : CE X T W (.Compare a [op] [b] pos) (dBin f da db) :=
  pe_imp (pe_cmpR ho ha hb hm) fun σ H Q h => two_of hs h
/-- a value that must be a bool -/
def asB : Res PV → Res Bool
  | .ok (.bl b) S => .ok b S
  | .exc c fs S => .exc c fs S
  | _ => .bad
theorem asB_post {g : Gm} {σ : L2.St} {m : Mm} {H : Hp} {Q : Bool → Hp → Prop} {r : Res PV} (p : PostB g W σ m H Q (asB r)) : PostV g W σ m H (fun x H' => ∃ k, x = .bl k ∧ Q k H') r := by
  cases r with
  | ok v S =>
    cases v with
    | bl b => exact fun m' H' w s h1 h2 => ⟨b, rep_bl h2, p m' H' b s h1 rfl⟩
    | _ => exact p.elim
  | exc c fs S => exact p
  | bad => exact p
def dB (d : EnP → Sto → Res PV) : EnP → Sto → Res Bool := fun ρ S => asB (d ρ S)
theorem ct_cmp {op : CmpOp} (ho : OpR X (compareOp op) r) (hs : Snd (gm X T) r f) (ha : CE X T W a da) (hb : CE X T W b db) (hm : behindInMarks op b = false) : CT X T W (.Compare a [op] [b] pos) (dB (dBin f da db)) :=
  pt_imp (pt_cmpR ho ha hb hm) fun σ H Q ⟨ρ, S, m, hE, hS, p⟩ => two_of hs ⟨ρ, S, m, hE, hS, asB_post p⟩
theorem ce_un {op : UnaryOp} {r : V → Hp → VK → Prop} {f : PV → Sto → Res PV} (ho : UnR X (unaryOp op) r) (hs : Snd1 (gm X T) r f) (ha : CE X T W a da) : CE X T W (.UnaryOp op a pos) (dUn f da) :=
  pe_imp (pe_un ho ha) fun σ H Q ⟨ρ, S, m, hE, hS, p⟩ => tr_bind (f := fun x ρ S1 => f x S1) hE hS p fun x S1 m1 H1 w s1 hE1 hS1 hr1 p1 => hs W σ m1 S1 H1 x w Q hS1 hr1 p1
end
/-! ### arithmetic -/
def fAdd (mt : Bool) : PV → PV → Sto → Res PV
  | .int i, .int j, S => .ok (.int (i + j)) S
  | .str a, .str b, S => if a.length + b.length ≤ lim then .ok (.str (a ++ b)) S else .bad
  | .tup xs, .tup ys, S => mkTup (xs ++ ys) S
  | x, y, S => match lstT x S, lstT y S with
    | some xs, some ys => mkLst mt (xs ++ ys) S
    | _, _ => .bad
def fSub : PV → PV → Sto → Res PV
  | .int i, .int j, S => .ok (.int (i - j)) S
  | _, _, _ => .bad
def fMul (mt : Bool) : PV → PV → Sto → Res PV
  | .int i, .int j, S => if i.natAbs.log2 + j.natAbs.log2 < 1000000 then .ok (.int (i * j)) S else .bad
  | x, .int k, S => match lstT x S with
    | some xs => if 0 ≤ k ∧ k ≤ 1000 ∧ xs.length ≤ 1000 then mkLst mt (List.replicate k.toNat xs).flatten S else .bad
    | none => .bad
  | _, _, _ => .bad
def fDiv : PV → PV → Sto → Res PV
  | .int i, .int j, S => if j ≠ 0 ∧ j.natAbs.log2 < 9000 then .ok (.int (i.fdiv j)) S else .bad
  | _, _, _ => .bad
def fMod : PV → PV → Sto → Res PV
  | .int i, .int j, S => if j ≠ 0 then .ok (.int (i.fmod j)) S else .bad
  | _, _, _ => .bad
def fPow : PV → PV → Sto → Res PV
  | .int i, .int j, S => if 0 ≤ j ∧ j ≤ 1000000 ∧ i.natAbs < 2 ^ 64 then .ok (.int (i ^ j.toNat)) S else .bad
  | _, _, _ => .bad
def rAddM (K : PySem.W.Frag) : R2 := fun x y H Q => (rI0 (fun i j => .int (i + j)) x y H Q ∨ (∃ i j, x = .str i ∧ y = .str j ∧ i.length + j.length ≤ sizeLine ∧ Q (.str (i ++ j)) H)) ∨ (rCatA K x y H Q ∨ rCat x y H Q)
section
variable {X : Cx} {T : Tb}
theorem op_addM : OpR X (binaryOp .Add) (rAddM X.K) := (op_add.or op_add_str).or (op_catA.or op_cat)
theorem sn_add (mt : Bool) (hb : mt = true → Bare (gm X T)) : Snd (gm X T) (rAddM X.K) (fAdd mt) := by
  intro W σ m S H x y v u Q hS rx ry p
  have lists : PostV (gm X T) W σ m H Q (match lstT x S, lstT y S with | some xs, some ys => mkLst mt (xs ++ ys) S | _, _ => .bad) → rAddM X.K v u H Q := fun p => by
    cases e1 : lstT x S with
    | none => rw [e1] at p; exact p.elim
    | some xs =>
      cases e2 : lstT y S with
      | none => rw [e1, e2] at p; exact p.elim
      | some ys =>
        rw [e1, e2] at p
        obtain ⟨a, vs, rfl, h1, r1⟩ := lstT_rep hS rx e1
        obtain ⟨b, us, rfl, h2, r2⟩ := lstT_rep hS ry e2
        obtain ⟨z, q⟩ := new_lst hb hS (r1.append r2) p
        rw [List.length_append] at z
        exact .inr (.inr ⟨a, b, vs, us, rfl, rfl, h1, h2, z, q⟩)
  unfold fAdd at p
  split at p
  · cases rep_int rx
    cases rep_int ry
    exact .inl (.inl ⟨_, _, rfl, rfl, p.here hS (mk_int _)⟩)
  · cases rep_str rx
    cases rep_str ry
    split at p
    · rename_i h
      exact .inl (.inr ⟨_, _, rfl, rfl, lim_line h, p.here hS (mk_str _)⟩)
    · exact p.elim
  · rename_i xs ys
    obtain ⟨a, vs, rfl, h1, r1⟩ := tup_rep rx
    obtain ⟨b, us, rfl, h2, r2⟩ := tup_rep ry
    obtain ⟨z, q⟩ := new_tup hS (r1.append r2) p
    rw [List.length_append] at z
    have hz : xs.length + ys.length ≤ lim := by
      have e : vs.length + us.length ≤ sizeLine := z
      rw [sizeLine_eq, ← r1.length, ← r2.length] at e
      exact e
    have pt : ∀ w, Rep (gm X T) m H (.tup (xs ++ ys)) w → Q w H := fun w r => by
      unfold mkTup at p
      rw [if_pos (by rw [List.length_append]; exact hz)] at p
      exact p.here hS r
    refine .inr (.inl ⟨a, b, vs, us, rfl, rfl, h1, h2, z, fun e => ?_, fun _ e => ?_, fun _ _ => q⟩)
    · have e0 : xs = [] := by have := r1.length; rw [e] at this; exact List.length_eq_zero_iff.mp (by simpa using this)
      exact pt _ (by rw [e0]; exact ry)
    · have e0 : ys = [] := by have := r2.length; rw [e] at this; exact List.length_eq_zero_iff.mp (by simpa using this)
      exact pt _ (by rw [e0, List.append_nil]; exact rx)
  · exact lists p
theorem sn_sub : Snd (gm X T) (rI0 fun i j => .int (i - j)) fSub := by
  intro W σ m S H x y v u Q hS rx ry p
  unfold fSub at p
  split at p
  · cases rep_int rx
    cases rep_int ry
    exact ⟨_, _, rfl, rfl, p.here hS (mk_int _)⟩
  · exact p.elim
def rMulM : R2 := fun x y H Q => rI CMulW (fun i j => .int (i * j)) x y H Q ∨ rRep x y H Q
theorem op_mulM : OpR X (binaryOp .Mult) rMulM := op_mulW.or op_rep
theorem flat_len (k : Nat) (xs : List PV) : (List.replicate k xs).flatten.length = k * xs.length := by
  induction k with
  | zero => simp
  | succ k ih => rw [List.replicate_succ, List.flatten_cons, List.length_append, ih, Nat.succ_mul, Nat.add_comm]
theorem flat_rep {g : Gm} {m : Mm} {H : Hp} {xs : List PV} {vs : List V} (r : RepL g m H xs vs) : ∀ k : Nat, RepL g m H (List.replicate k xs).flatten (List.replicate k vs).flatten
  | 0 => RepL.nil
  | k + 1 => by
    rw [List.replicate_succ, List.flatten_cons, List.replicate_succ, List.flatten_cons]
    exact r.append (flat_rep r k)
theorem sn_mul (mt : Bool) (hb : mt = true → Bare (gm X T)) : Snd (gm X T) rMulM (fMul mt) := by
  intro W σ m S H x y v u Q hS rx ry p
  unfold fMul at p
  split at p
  · cases rep_int rx
    cases rep_int ry
    split at p
    · rename_i h
      exact .inl ⟨_, _, rfl, rfl, h, p.here hS (mk_int _)⟩
    · exact p.elim
  · cases rep_int ry
    rename_i k _
    cases e1 : lstT x S with
    | none => rw [e1] at p; exact p.elim
    | some xs =>
      rw [e1] at p
      obtain ⟨a, vs, rfl, h1, r1⟩ := lstT_rep hS rx e1
      have p : PostV (gm X T) W σ m H Q (if 0 ≤ k ∧ k ≤ 1000 ∧ xs.length ≤ 1000 then mkLst mt (List.replicate k.toNat xs).flatten S else .bad) := p
      split at p
      · rename_i h
        obtain ⟨z1, z2, z3⟩ := h
        obtain ⟨z, q⟩ := new_lst hb hS (flat_rep r1 k.toNat) p
        refine .inr ⟨a, k, vs, rfl, rfl, h1, by omega, by omega, ?_, q⟩
        rw [sizeLine_eq, ← r1.length]
        have := Nat.mul_le_mul z3 (show k.toNat ≤ 1000 by omega)
        omega
      · exact p.elim
  · exact p.elim
theorem op_fdivA : OpR X (binaryOp .FloorDiv) (rI (fun _ j => j ≠ 0 ∧ j.natAbs.log2 < 9000) fun i j => .int (i.fdiv j)) := opI fun _ _ _ _ _ _ _ hc q => floordiv_int hc.1 q (.inl (PyProof.noPylong_of_log2 hc.2))
theorem sn_div : Snd (gm X T) (rI (fun _ j => j ≠ 0 ∧ j.natAbs.log2 < 9000) fun i j => .int (i.fdiv j)) fDiv := by
  intro W σ m S H x y v u Q hS rx ry p
  unfold fDiv at p
  split at p
  · cases rep_int rx
    cases rep_int ry
    split at p
    · rename_i h
      exact ⟨_, _, rfl, rfl, h, p.here hS (mk_int _)⟩
    · exact p.elim
  · exact p.elim
theorem sn_mod : Snd (gm X T) (rI (fun _ j => j ≠ 0) fun i j => .int (i.fmod j)) fMod := by
  intro W σ m S H x y v u Q hS rx ry p
  unfold fMod at p
  split at p
  · cases rep_int rx
    cases rep_int ry
    split at p
    · rename_i h
      exact ⟨_, _, rfl, rfl, h, p.here hS (mk_int _)⟩
    · exact p.elim
  · exact p.elim
theorem sn_pow : Snd (gm X T) (rI CPow fun i j => .int (i ^ j.toNat)) fPow := by
  intro W σ m S H x y v u Q hS rx ry p
  unfold fPow at p
  split at p
  · cases rep_int rx
    cases rep_int ry
    split at p
    · rename_i h
      exact ⟨_, _, rfl, rfl, h, p.here hS (mk_int _)⟩
    · exact p.elim
  · exact p.elim
def fNeg : PV → Sto → Res PV
  | .int i, S => .ok (.int (-i)) S
  | _, _ => .bad
theorem sn_neg : Snd1 (gm X T) (rU fun i => .int (-i)) fNeg := by
  intro W σ m S H x v Q hS rx p
  unfold fNeg at p
  split at p
  · cases rep_int rx
    exact ⟨_, rfl, p.here hS (mk_int _)⟩
  · exact p.elim
end
end Mi
end
section
set_option Elab.async false
set_option linter.all false
set_option maxRecDepth 100000
set_option maxHeartbeats 2000000
namespace Mi
open PySem PySem.Spec PyProof.Rows L2

/-! ### == and repr, by data -/
mutual
def toD : PV → Option PyData
  | .non => some .none
  | .bl b => some (.bool b)
  | .int i => some (.int i)
  | .str s => some (.str s)
  | .tup xs => (toDL xs).map PyData.tuple
  | .nl xs => (toDL xs).map PyData.list
  | .fl xs => (toDL xs).map PyData.list
  | _ => none
def toDL : List PV → Option (List PyData)
  | [] => some []
  | x :: xs => match toD x, toDL xs with
    | some d, some ds => some (d :: ds)
    | _, _ => none
end
def toDS : PV → Sto → Option PyData
  | .ref n, S => match S[n]? with
    | some (SO.lst xs) => (toDL xs).map PyData.list
    | none => none
  | v, _ => toD v
section
variable {g : Gm} {m : Mm} {S : Sto} {H : Hp}
mutual
theorem dp_of : ∀ (x : PV) (v : V) (d : PyData), Rep g m H x v → toD x = some d → Dp g.K H v d
  | .non, v, d, r, e => by unfold toD at e; cases e; rw [rep_non r]; exact .non
  | .bl b, v, d, r, e => by unfold toD at e; cases e; rw [rep_bl r]; exact .bl b
  | .int i, v, d, r, e => by unfold toD at e; cases e; rw [rep_int r]; exact .int i
  | .str s, v, d, r, e => by unfold toD at e; cases e; rw [rep_str r]; exact .str s
  | .tup xs, v, d, r, e => by
    unfold toD at e
    obtain ⟨a, vs, rfl, h1, h2⟩ := tup_rep r
    cases q : toDL xs with
    | none => rw [q] at e; cases e
    | some ds => rw [q] at e; cases e; exact .tup h1 (dpL_of xs vs ds h2 q)
  | .nl xs, v, d, r, e => by
    unfold toD at e
    unfold Rep at r
    obtain ⟨a, vs, rfl, _, h1, h2⟩ := r
    cases q : toDL xs with
    | none => rw [q] at e; cases e
    | some ds => rw [q] at e; cases e; exact .lst (.inl (.inl h1)) (dpL_of xs vs ds h2 q)
  | .fl xs, v, d, r, e => by
    unfold toD at e
    unfold Rep at r
    obtain ⟨a, vs, rfl, h1, h2⟩ := r
    cases q : toDL xs with
    | none => rw [q] at e; cases e
    | some ds =>
      rw [q] at e
      cases e
      refine .lst ?_ (dpL_of xs vs ds h2 q)
      rcases h1 with ⟨o, h1⟩ | h1
      · exact .inl (.inr ⟨o, h1⟩)
      · rcases h1 with h1 | h1
        · rcases h1 with h1 | ⟨o, h1⟩ <;> cases h1
        · exact .inr h1
  | .nd _ _, _, _, _, e => by unfold toD at e; cases e
  | .ref _, _, _, _, e => by unfold toD at e; cases e
  | .ty _, _, _, _, e => by unfold toD at e; cases e
  | .glb _, _, _, _, e => by unfold toD at e; cases e
  | .err, _, _, _, e => by unfold toD at e; cases e
  | .lam, _, _, _, e => by unfold toD at e; cases e
theorem dpL_of : ∀ (xs : List PV) (vs : List V) (ds : List PyData), RepL g m H xs vs → toDL xs = some ds → DpAll g.K H vs ds
  | [], vs, ds, r, e => by
    unfold toDL at e
    cases e
    unfold RepL at r
    rw [r]
    exact .nil
  | x :: xs, vs, ds, r, e => by
    unfold toDL at e
    unfold RepL at r
    obtain ⟨v, ws, rfl, h1, h2⟩ := r
    cases q1 : toD x with
    | none => rw [q1] at e; cases e
    | some d =>
      cases q2 : toDL xs with
      | none => rw [q1, q2] at e; cases e
      | some es =>
        rw [q1, q2] at e
        cases e
        exact .cons (dp_of x v d h1 q1) (dpL_of xs ws es h2 q2)
end
theorem dpS_of {x : PV} {v : V} {d : PyData} (hS : RelS g m S H) (r : Rep g m H x v) (e : toDS x S = some d) : Dp g.K H v d := by
  cases x with
  | ref n =>
    simp only [toDS] at e
    cases q : S[n]? with
    | none => rw [q] at e; cases e
    | some o =>
      cases o with
      | lst xs =>
        rw [q] at e
        have e : (toDL xs).map PyData.list = some d := e
        obtain ⟨a, vs, f1, f2, f3⟩ := hS.at_ n xs q
        unfold Rep at r
        obtain ⟨b, e1, e2⟩ := r
        rw [f1] at e1; cases e1
        cases q2 : toDL xs with
        | none => rw [q2] at e; cases e
        | some ds => rw [q2] at e; cases e; rw [e2]; exact .lst (.inl (.inl f2)) (dpL_of xs vs ds (RepL.up _ _ f3) q2)
  | _ => exact dp_of _ v d r e
end
def fEq (neg : Bool) (x y : PV) (S : Sto) : Res PV := match toDS x S, toDS y S with
  | some d, some e => if SeqAt.shaped d = true ∧ SeqAt.shaped e = true then .ok (.bl (if neg = true then !PyData.eqv d e else PyData.eqv d e)) S else .bad
  | _, _ => .bad
section
variable {X : Cx} {T : Tb}
theorem sn_eq : Snd (gm X T) (rEqD X.K) (fEq false) := by
  intro W σ m S H x y v u Q hS rx ry p
  unfold fEq at p
  split at p
  · rename_i d e h1 h2
    split at p
    · rename_i h
      exact ⟨d, e, dpS_of hS rx h1, dpS_of hS ry h2, h.1, h.2, p.here hS (mk_bl _)⟩
    · exact p.elim
  · exact p.elim
theorem sn_ne : Snd (gm X T) (rNeD X.K) (fEq true) := by
  intro W σ m S H x y v u Q hS rx ry p
  unfold fEq at p
  split at p
  · rename_i d e h1 h2
    split at p
    · rename_i h
      exact ⟨d, e, dpS_of hS rx h1, dpS_of hS ry h2, h.1, h.2, p.here hS (mk_bl _)⟩
    · exact p.elim
  · exact p.elim
def fCmpI (f : Int → Int → Bool) : PV → PV → Sto → Res PV
  | .int i, .int j, S => .ok (.bl (f i j)) S
  | _, _, _ => .bad
theorem sn_cmpI (f : Int → Int → Bool) : Snd (gm X T) (rI0 fun i j => .bl (f i j)) (fCmpI f) := by
  intro W σ m S H x y v u Q hS rx ry p
  unfold fCmpI at p
  split at p
  · cases rep_int rx
    cases rep_int ry
    exact ⟨_, _, rfl, rfl, p.here hS (mk_bl _)⟩
  · exact p.elim
abbrev iLt (i j : Int) : Bool := decide (i < j)
abbrev iLe (i j : Int) : Bool := decide (i ≤ j)
abbrev iGt (i j : Int) : Bool := decide (j < i)
abbrev iGe (i j : Int) : Bool := decide (j ≤ i)
/-- < and <= of texts, by their signs -/
def fCmpS (f : List Nat → List Nat → Bool) : PV → PV → Sto → Res PV
  | .str i, .str j, S => .ok (.bl (f i.cps.toList j.cps.toList)) S
  | _, _, _ => .bad
/-- is, is not -/
def fIs (neg : Bool) : PV → PV → Sto → Res PV
  | .bl a, .bl b, S => .ok (.bl (if neg = true then !(a == b) else a == b)) S
  | _, _, _ => .bad
def isNon : PV → Bool
  | .non => true
  | _ => false
def fIsN (neg : Bool) : PV → PV → Sto → Res PV
  | x, .non, S => .ok (.bl (if neg = true then !isNon x else isNon x)) S
  | _, _, _ => .bad
theorem isNon_rep {g : Gm} {m : Mm} {H : Hp} {x : PV} {v : V} (r : Rep g m H x v) : decide (v = V.non) = isNon x := by
  cases x with
  | non => rw [rep_non r]; simp [isNon]
  | bl b => rw [rep_bl r]; simp [isNon]
  | int b => rw [rep_int r]; simp [isNon]
  | str b => rw [rep_str r]; simp [isNon]
  | ty b => rw [rep_ty r]; simp [isNon]
  | tup xs => obtain ⟨a, vs, rfl, _⟩ := tup_rep r; simp [isNon]
  | nl xs => unfold Rep at r; obtain ⟨a, vs, rfl, _⟩ := r; simp [isNon]
  | fl xs => unfold Rep at r; obtain ⟨a, vs, rfl, _⟩ := r; simp [isNon]
  | nd ks xs => unfold Rep at r; obtain ⟨a, vs, rfl, _⟩ := r; simp [isNon]
  | ref n => unfold Rep at r; obtain ⟨a, _, rfl⟩ := r; simp [isNon]
  | glb n => unfold Rep at r; obtain ⟨a, _, rfl⟩ := r; simp [isNon]
  | err => unfold Rep at r; obtain ⟨a, _, rfl⟩ := r; simp [isNon]
  | lam => unfold Rep at r; obtain ⟨i, _, rfl, _⟩ := r; simp [isNon]
theorem sn_isN : Snd (gm X T) (fun x y H Q => y = .non ∧ Q (.bl (decide (x = .non))) H) (fIsN false) := by
  intro W σ m S H x y v u Q hS rx ry p
  unfold fIsN at p
  split at p
  · rw [isNon_rep rx]
    exact ⟨rep_non ry, p.here hS (mk_bl _)⟩
  · exact p.elim
theorem sn_notN : Snd (gm X T) (fun x y H Q => y = .non ∧ Q (.bl (!decide (x = .non))) H) (fIsN true) := by
  intro W σ m S H x y v u Q hS rx ry p
  unfold fIsN at p
  split at p
  · rw [isNon_rep rx]
    exact ⟨rep_non ry, p.here hS (mk_bl _)⟩
  · exact p.elim
theorem dec_beq (a b : Bool) : decide (a = b) = (a == b) := by cases a <;> cases b <;> rfl
theorem sn_isB : Snd (gm X T) rIsB (fIs false) := by
  intro W σ m S H x y v u Q hS rx ry p
  unfold fIs at p
  split at p
  · cases rep_bl rx
    cases rep_bl ry
    refine ⟨_, _, rfl, rfl, ?_⟩
    rw [dec_beq]
    exact p.here hS (mk_bl _)
  · exact p.elim
theorem sn_notB : Snd (gm X T) rNotB (fIs true) := by
  intro W σ m S H x y v u Q hS rx ry p
  unfold fIs at p
  split at p
  · cases rep_bl rx
    cases rep_bl ry
    refine ⟨_, _, rfl, rfl, ?_⟩
    rw [dec_beq]
    exact p.here hS (mk_bl _)
  · exact p.elim
end
/-- x in (flat items) -/
def flatP : PV → Bool
  | .non | .bl _ | .int _ | .str _ => true
  | _ => false
def toV : PV → V
  | .non => .non
  | .bl b => .bl b
  | .int i => .int i
  | .str s => .str s
  | _ => .non
def eqP (x y : PV) : Bool := eqV (toV x) (toV y)
def inP (x : PV) (xs : List PV) : Bool := xs.any fun y => eqP y x
def fIn (neg : Bool) (x y : PV) (S : Sto) : Res PV := match seqOf y S with
  | some xs => if flatP x = true ∧ xs.all flatP = true then .ok (.bl (if neg = true then !inP x xs else inP x xs)) S else .bad
  | none => .bad
section
variable {X : Cx} {T : Tb}
theorem toV_rep {g : Gm} {m : Mm} {H : Hp} {x : PV} {v : V} (r : Rep g m H x v) (h : flatP x = true) : v = toV x ∧ flatV v = true := by
  cases x with
  | non => rw [rep_non r]; exact ⟨rfl, rfl⟩
  | bl b => rw [rep_bl r]; exact ⟨rfl, rfl⟩
  | int b => rw [rep_int r]; exact ⟨rfl, rfl⟩
  | str b => rw [rep_str r]; exact ⟨rfl, rfl⟩
  | _ => cases h
theorem toVL_rep {g : Gm} {m : Mm} {H : Hp} : ∀ {xs : List PV} {vs : List V}, RepL g m H xs vs → xs.all flatP = true → vs = xs.map toV ∧ vs.all flatV = true
  | [], _, r, _ => by unfold RepL at r; rw [r]; exact ⟨rfl, rfl⟩
  | x :: xs, _, r, h => by
    unfold RepL at r
    obtain ⟨v, ws, rfl, h1, h2⟩ := r
    rw [List.all_cons, Bool.and_eq_true] at h
    obtain ⟨e1, f1⟩ := toV_rep h1 h.1
    obtain ⟨e2, f2⟩ := toVL_rep h2 h.2
    exact ⟨by rw [List.map_cons, ← e1, ← e2], by rw [List.all_cons, f1, f2]; rfl⟩
theorem sn_in (neg : Bool) : Snd (gm X T) (rIn X.K neg) (fIn neg) := by
  intro W σ m S H x y v u Q hS rx ry p
  unfold fIn at p
  split at p
  · rename_i xs e
    split at p
    · rename_i h
      obtain ⟨a, vs, rfl, h1, h2⟩ := seqOf_rep hS ry e
      obtain ⟨e1, f1⟩ := toV_rep rx h.1
      obtain ⟨e2, f2⟩ := toVL_rep h2 h.2
      refine ⟨a, vs, rfl, h1, f1, f2, ?_⟩
      have q : inV v vs = inP x xs := by
        rw [e1, e2]
        unfold inV inP
        rw [List.any_map]
        rfl
      cases neg with
      | false => rw [if_neg Bool.false_ne_true, q]; exact p.here hS (mk_bl _)
      | true => rw [if_pos rfl, q]; exact p.here hS (mk_bl _)
    · exact p.elim
  · exact p.elim
end

/-! ### and, or, not, if -/
def dAnd (da db : EnP → Sto → Res PV) : EnP → Sto → Res PV := fun ρ S => (da ρ S).bind fun x S1 => match x with
  | .bl true => db ρ S1
  | .bl false => .ok (.bl false) S1
  | _ => .bad
def dOr (da db : EnP → Sto → Res PV) : EnP → Sto → Res PV := fun ρ S => (da ρ S).bind fun x S1 => match x with
  | .bl true => .ok (.bl true) S1
  | .bl false => db ρ S1
  | _ => .bad
def dNot (da : EnP → Sto → Res PV) : EnP → Sto → Res PV := fun ρ S => (da ρ S).bind fun x S1 => match x with
  | .bl b => .ok (.bl (!b)) S1
  | _ => .bad
def bAnd (da db : EnP → Sto → Res Bool) : EnP → Sto → Res Bool := fun ρ S => (da ρ S).bind fun x S1 => if x = true then db ρ S1 else .ok false S1
def bOr (da db : EnP → Sto → Res Bool) : EnP → Sto → Res Bool := fun ρ S => (da ρ S).bind fun x S1 => if x = true then .ok true S1 else db ρ S1
def bNot (da : EnP → Sto → Res Bool) : EnP → Sto → Res Bool := fun ρ S => (da ρ S).bind fun x S1 => .ok (!x) S1
def dIf (dc : EnP → Sto → Res Bool) (da db : EnP → Sto → Res PV) : EnP → Sto → Res PV := fun ρ S => (dc ρ S).bind fun x S1 => if x = true then da ρ S1 else db ρ S1
section
variable {X : Cx} {T : Tb} {W : WX} {pos : Pos} {a b c : Expr} {rest : List Expr} {da db dc : EnP → Sto → Res PV} {ea eb : EnP → Sto → Res Bool}
theorem ce_one {op} (h : CE X T W a da) : CE X T W (.BoolOp op [a] pos) da := pe_one h
theorem ce_and (ha : CE X T W a da) (hb : CE X T W (.BoolOp .And (b :: rest) pos) db) : CE X T W (.BoolOp .And (a :: b :: rest) pos) (dAnd da db) :=
  pe_imp (pe_and ha hb) fun σ H Q ⟨ρ, S, m, hE, hS, p⟩ => tr_bind (f := fun (x : PV) (ρ : EnP) (S1 : Sto) => match x with | .bl true => db ρ S1 | .bl false => .ok (.bl false) S1 | _ => .bad) hE hS p fun x S1 m1 H1 w s1 hE1 hS1 hr1 p1 => by
    cases x with
    | bl k =>
      refine ⟨k, rep_bl hr1, ?_⟩
      cases k with
      | true => rw [if_pos rfl]; exact ⟨ρ, S1, m1, hE1, hS1, p1⟩
      | false => rw [if_neg Bool.false_ne_true]; exact PostR.here (a := PV.bl false) p1 hS1 (mk_bl _)
    | _ => exact p1.elim
theorem ce_or (ha : CE X T W a da) (hb : CE X T W (.BoolOp .Or (b :: rest) pos) db) : CE X T W (.BoolOp .Or (a :: b :: rest) pos) (dOr da db) :=
  pe_imp (pe_or ha hb) fun σ H Q ⟨ρ, S, m, hE, hS, p⟩ => tr_bind (f := fun (x : PV) (ρ : EnP) (S1 : Sto) => match x with | .bl true => .ok (.bl true) S1 | .bl false => db ρ S1 | _ => .bad) hE hS p fun x S1 m1 H1 w s1 hE1 hS1 hr1 p1 => by
    cases x with
    | bl k =>
      refine ⟨k, rep_bl hr1, ?_⟩
      cases k with
      | true => rw [if_pos rfl]; exact PostR.here (a := PV.bl true) p1 hS1 (mk_bl _)
      | false => rw [if_neg Bool.false_ne_true]; exact ⟨ρ, S1, m1, hE1, hS1, p1⟩
    | _ => exact p1.elim
theorem ce_not (ha : CE X T W a da) : CE X T W (.UnaryOp .Not a pos) (dNot da) :=
  pe_imp (pe_not ha) fun σ H Q ⟨ρ, S, m, hE, hS, p⟩ => tr_bind (f := fun (x : PV) (ρ : EnP) (S1 : Sto) => match x with | .bl b => Res.ok (PV.bl (!b)) S1 | _ => .bad) hE hS p fun x S1 m1 H1 w s1 hE1 hS1 hr1 p1 => by
    cases x with
    | bl k => exact ⟨k, rep_bl hr1, PostR.here (a := PV.bl (!k)) p1 hS1 (mk_bl _)⟩
    | _ => exact p1.elim
theorem cw_and1 (ha : CT X T W a ea) : CW X T W (.BoolOp .And [a] pos) ea := pw_and1 ha
theorem cw_or1 (ha : CT X T W a ea) : CW X T W (.BoolOp .Or [a] pos) ea := pw_or1 ha
theorem cw_and (ha : CT X T W a ea) (hb : CW X T W (.BoolOp .And (b :: rest) pos) eb) : CW X T W (.BoolOp .And (a :: b :: rest) pos) (bAnd ea eb) :=
  pw_imp (pw_and ha hb) fun σ H Q ⟨ρ, S, m, hE, hS, p⟩ => tr_bind (f := fun x ρ S1 => if x = true then eb ρ S1 else .ok false S1) hE hS p fun x S1 m1 H1 w s1 hE1 hS1 hr1 p1 => by
    cases hr1
    cases x with
    | true => rw [if_pos rfl] at p1 ⊢; exact ⟨ρ, S1, m1, hE1, hS1, p1⟩
    | false => rw [if_neg Bool.false_ne_true] at p1 ⊢; exact PostR.here (a := false) p1 hS1 rfl
theorem cw_or (ha : CT X T W a ea) (hb : CW X T W (.BoolOp .Or (b :: rest) pos) eb) : CW X T W (.BoolOp .Or (a :: b :: rest) pos) (bOr ea eb) :=
  pw_imp (pw_or ha hb) fun σ H Q ⟨ρ, S, m, hE, hS, p⟩ => tr_bind (f := fun x ρ S1 => if x = true then .ok true S1 else eb ρ S1) hE hS p fun x S1 m1 H1 w s1 hE1 hS1 hr1 p1 => by
    cases hr1
    cases x with
    | true => rw [if_pos rfl] at p1 ⊢; exact PostR.here (a := true) p1 hS1 rfl
    | false => rw [if_neg Bool.false_ne_true] at p1 ⊢; exact ⟨ρ, S1, m1, hE1, hS1, p1⟩
theorem ct_w (h : CW X T W a ea) : CT X T W a ea := h.pt
theorem ct_not (ha : CT X T W a ea) : CT X T W (.UnaryOp .Not a pos) (bNot ea) :=
  pt_imp (pt_not ha) fun σ H Q ⟨ρ, S, m, hE, hS, p⟩ => tr_bind (f := fun x ρ S1 => .ok (!x) S1) hE hS p fun x S1 m1 H1 w s1 hE1 hS1 hr1 p1 => by
    cases hr1
    exact PostR.here (a := !x) p1 hS1 rfl
theorem ce_if (hc : CT X T W c ea) (ha : CE X T W a da) (hb : CE X T W b db) : CE X T W (.IfExp c a b pos) (dIf ea da db) :=
  pe_imp (pe_ifExp hc ha hb) fun σ H Q ⟨ρ, S, m, hE, hS, p⟩ => tr_bind (f := fun x ρ S1 => if x = true then da ρ S1 else db ρ S1) hE hS p fun x S1 m1 H1 w s1 hE1 hS1 hr1 p1 => by
    cases hr1
    cases x with
    | true => rw [if_pos rfl] at p1 ⊢; exact ⟨ρ, S1, m1, hE1, hS1, p1⟩
    | false => rw [if_neg Bool.false_ne_true] at p1 ⊢; exact ⟨ρ, S1, m1, hE1, hS1, p1⟩
/-- a op1 b op2 c -/
def dChain (f f' : PV → PV → Sto → Res PV) (da db dc : EnP → Sto → Res PV) : EnP → Sto → Res PV := fun ρ S => (da ρ S).bind fun x S1 => (db ρ S1).bind fun y S2 => (f x y S2).bind fun z S3 => match z with
  | .bl true => (dc ρ S3).bind fun w S4 => f' y w S4
  | .bl false => .ok (.bl false) S3
  | _ => .bad
theorem chain_of {f f' : PV → PV → Sto → Res PV} {r r' : R2} (hs : Snd (gm X T) r f) (hs' : Snd (gm X T) r' f') {σ : L2.St} {H : Hp} {Q : VK} (h : tv (gm X T) W (dChain f f' da db dc) σ H Q) :
    tChain r r' (tv (gm X T) W da) (tv (gm X T) W db) (tv (gm X T) W dc) σ H Q := by
  obtain ⟨ρ, S, m, hE, hS, p⟩ := h
  refine tr_bind (f := fun x ρ S1 => (db ρ S1).bind fun y S2 => (f x y S2).bind fun z S3 => match z with
    | .bl true => (dc ρ S3).bind fun w S4 => f' y w S4
    | .bl false => .ok (.bl false) S3
    | _ => .bad) hE hS p fun x S1 m1 H1 w s1 hE1 hS1 hr1 p1 => ?_
  refine tr_bind (f := fun y ρ S2 => (f x y S2).bind fun z S3 => match z with
    | .bl true => (dc ρ S3).bind fun w S4 => f' y w S4
    | .bl false => .ok (.bl false) S3
    | _ => .bad) hE1 hS1 p1 fun y S2 m2 H2 w2 s2 hE2 hS2 hr2 p2 => ?_
  refine hs W σ m2 S2 H2 x y w w2 _ hS2 (hr1.step s2) hr2 ?_
  cases e : f x y S2 with
  | bad => rw [e] at p2; exact p2.elim
  | exc c fs S3 => rw [e] at p2; exact fun m' H' cls dd s h1 h2 => p2 m' H' cls dd s h1 h2
  | ok z S3 =>
    rw [e] at p2
    intro m3 H3 w3 s3 hS3 hr3
    cases z with
    | bl k =>
      refine ⟨k, rep_bl hr3, ?_⟩
      cases k with
      | true =>
        rw [if_pos rfl]
        have p3 : PostV (gm X T) W σ m2 H2 Q ((dc ρ S3).bind fun w S4 => f' y w S4) := p2
        exact tr_bind (f := fun w ρ S4 => f' y w S4) (hE2.step s3) hS3 (PostR.step s3 p3) fun z S4 m4 H4 w4 s4 hE4 hS4 hr4 p4 => hs' W σ m4 S4 H4 y z w2 w4 Q hS4 (hr2.step (s3.trans s4)) hr4 p4
      | false =>
        rw [if_neg Bool.false_ne_true]
        have p3 : PostV (gm X T) W σ m2 H2 Q (.ok (.bl false) S3) := p2
        exact p3 m3 H3 (.bl false) s3 hS3 (mk_bl _)
    | _ => exact p2.elim
theorem ce_chain {op op' : CmpOp} {f f' : PV → PV → Sto → Res PV} {r r' : R2} (ho : OpR X (compareOp op) r) (hs : Snd (gm X T) r f) (ho' : OpR X (compareOp op') r') (hs' : Snd (gm X T) r' f') (ha : CE X T W a da) (hb : CE X T W b db) (hc : CE X T W c dc)
    (hm : lastMarks [op, op'] [b, c] = false := by with_unfolding_all rfl) : CE X T W (.Compare a [op, op'] [b, c] pos) (dChain f f' da db dc) :=
  pe_imp (pe_chain ho ho' ha hb hc hm) fun σ H Q h => chain_of hs hs' h
theorem ct_chain {op op' : CmpOp} {f f' : PV → PV → Sto → Res PV} {r r' : R2} (ho : OpR X (compareOp op) r) (hs : Snd (gm X T) r f) (ho' : OpR X (compareOp op') r') (hs' : Snd (gm X T) r' f') (ha : CE X T W a da) (hb : CE X T W b db) (hc : CE X T W c dc)
    (hm : lastMarks [op, op'] [b, c] = false := by with_unfolding_all rfl) : CT X T W (.Compare a [op, op'] [b, c] pos) (dB (dChain f f' da db dc)) :=
  pt_imp (pt_chain ho ho' ha hb hc hm) fun σ H Q ⟨ρ, S, m, hE, hS, p⟩ => chain_of hs hs' ⟨ρ, S, m, hE, hS, asB_post p⟩
/-- a value's truth -/
def truP (x : PV) (S : Sto) : Option Bool := match x with
  | .non => some false
  | .bl b => some b
  | .int i => some (i != 0)
  | .str s => if s.length ≤ lim then some ((s.length : Int) != 0) else none
  | x => match seqOf x S with
    | some xs => some (!xs.isEmpty)
    | none => none
def dTru (da : EnP → Sto → Res PV) : EnP → Sto → Res Bool := fun ρ S => (da ρ S).bind fun x S1 => match truP x S1 with
  | some b => .ok b S1
  | none => .bad
theorem truP_rep {g : Gm} {m : Mm} {S : Sto} {H : Hp} {x : PV} {v : V} {k : Bool} (hS : RelS g m S H) (r : Rep g m H x v) (e : truP x S = some k) : TruV g.K v H k := by
  have sq : (match seqOf x S with | some xs => some (!xs.isEmpty) | none => none) = some k → TruV g.K v H k := fun e => by
    cases q : seqOf x S with
    | none => rw [q] at e; cases e
    | some xs =>
      rw [q] at e
      obtain ⟨a, vs, rfl, h1, h2⟩ := seqOf_rep hS r q
      have z : (!xs.isEmpty) = k := Option.some.inj e
      have z2 : xs.isEmpty = vs.isEmpty := by
        have l := h2.length
        cases xs <;> cases vs <;> first | rfl | cases l
      rw [z2] at z
      rcases h1 with h1 | h1
      · exact .inl ⟨vs, h1, z.symm⟩
      · exact .inr (.inl ⟨vs, h1, z.symm⟩)
  cases x with
  | non => rw [rep_non r]; cases e; rfl
  | bl b => rw [rep_bl r]; cases e; rfl
  | int i => rw [rep_int r]; cases e; rfl
  | str s =>
    rw [rep_str r]
    simp only [truP] at e
    split at e
    · rename_i h
      cases e
      exact ⟨lim_line h, rfl⟩
    · cases e
  | _ => exact sq e
theorem ct_tru (ha : CE X T W a da) (he : ∀ whole, isTrue a X.env whole = (do let v ← whole; standAt a.pos; holding [v] (truthy v)) := by intro _; rfl) : CT X T W a (dTru da) :=
  pt_imp (pt_truth ha he) fun σ H Q ⟨ρ, S, m, hE, hS, p⟩ => tr_bind (f := fun x ρ S1 => match truP x S1 with | some b => .ok b S1 | none => .bad) hE hS p fun x S1 m1 H1 w s1 hE1 hS1 hr1 p1 => by
    cases e : truP x S1 with
    | none => rw [e] at p1; exact p1.elim
    | some k => rw [e] at p1; exact ⟨k, truP_rep hS1 hr1 e, PostR.here (a := k) p1 hS1 rfl⟩
end
end Mi
end
section
set_option Elab.async false
set_option linter.all false
set_option maxRecDepth 100000
set_option maxHeartbeats 2000000
namespace Mi
open PySem PySem.Spec PyProof.Rows L2

/-! ### arguments, displays -/
def dNil : EnP → Sto → Res (List PV) := fun _ S => .ok [] S
def dCons (da : EnP → Sto → Res PV) (dr : EnP → Sto → Res (List PV)) : EnP → Sto → Res (List PV) := fun ρ S => (da ρ S).bind fun x S1 => (dr ρ S1).bind fun xs S2 => .ok (x :: xs) S2
def dTup (dl : EnP → Sto → Res (List PV)) : EnP → Sto → Res PV := fun ρ S => (dl ρ S).bind fun xs S1 => mkTup xs S1
def dLst (mt : Bool) (dl : EnP → Sto → Res (List PV)) : EnP → Sto → Res PV := fun ρ S => (dl ρ S).bind fun xs S1 => mkLst mt xs S1
/-- a call of what is known, by values -/
def dCB (f : List PV → Sto → Res PV) (dl : EnP → Sto → Res (List PV)) : EnP → Sto → Res PV := fun ρ S => (dl ρ S).bind fun xs S1 => f xs S1
def SndL (g : Gm) (r : List V → Hp → VK → Prop) (f : List PV → Sto → Res PV) : Prop :=
  ∀ (W : WX) (σ : L2.St) (m : Mm) (S : Sto) (H : Hp) (xs : List PV) (vs : List V) (Q : VK), RelS g m S H → RepL g m H xs vs → PostV g W σ m H Q (f xs S) → r vs H Q
section
variable {X : Cx} {T : Tb} {W : WX} {pos : Pos} {e : Expr} {es : List Expr} {da db : EnP → Sto → Res PV} {dl : EnP → Sto → Res (List PV)}
theorem ca_nil : CA X T W [] dNil := pa_imp pa_nil fun σ H Q ⟨ρ, S, m, hE, hS, p⟩ => PostR.here (a := ([] : List PV)) p hS RepL.nil
theorem ca_cons (ha : CE X T W e da) (hr : CA X T W es dl) (hs : starEach (e :: es) X.env = (false, eval e X.env) :: starEach es X.env := by rfl) : CA X T W (e :: es) (dCons da dl) :=
  pa_imp (pa_cons ha hr hs) fun σ H Q ⟨ρ, S, m, hE, hS, p⟩ => tr_bind (f := fun (x : PV) ρ S1 => (dl ρ S1).bind fun xs S2 => Res.ok (x :: xs) S2) hE hS p fun x S1 m1 H1 w s1 hE1 hS1 hr1 p1 =>
    tr_bind (f := fun (xs : List PV) _ S2 => Res.ok (x :: xs) S2) hE1 hS1 p1 fun xs S2 m2 H2 ws s2 hE2 hS2 hr2 p2 => PostR.here (a := x :: xs) p2 hS2 (RepL.cons (hr1.step s2) hr2)
theorem ce_tup {k : Nat} (h : CA X T W es dl) : CE X T W (.Tuple es k pos) (dTup dl) :=
  pe_imp (pe_tup h) fun σ H Q ⟨ρ, S, m, hE, hS, p⟩ => tr_bind (f := fun xs _ S1 => mkTup xs S1) hE hS p fun xs S1 m1 H1 ws s1 hE1 hS1 hr1 p1 => new_tup hS1 hr1 p1
theorem ce_lst (mt : Bool) (hb : mt = true → Bare (gm X T)) (h : CA X T W es dl) : CE X T W (.List es pos) (dLst mt dl) :=
  pe_imp (pe_lst h) fun σ H Q ⟨ρ, S, m, hE, hS, p⟩ => tr_bind (f := fun xs _ S1 => mkLst mt xs S1) hE hS p fun xs S1 m1 H1 ws s1 hE1 hS1 hr1 p1 => new_lst hb hS1 hr1 p1
theorem cb_of {f : List PV → Sto → Res PV} {r : List V → Hp → VK → Prop} (hs : SndL (gm X T) r f) {σ : L2.St} {H : Hp} {Q : VK} (h : tv (gm X T) W (dCB f dl) σ H Q) : tCB r (tl (gm X T) W dl) σ H Q := by
  obtain ⟨ρ, S, m, hE, hS, p⟩ := h
  exact tr_bind (f := fun xs _ S1 => f xs S1) hE hS p fun xs S1 m1 H1 ws s1 hE1 hS1 hr1 p1 => hs W σ m1 S1 H1 xs ws Q hS1 hr1 p1
theorem ce_callB {f : List PV → Sto → Res PV} {r : List V → Hp → VK → Prop} {x : Str} {id : String} {p : Pos} (hc : CallR X (.builtin id) r) (hs : SndL (gm X T) r f) (hg : Gl X x) (hm : X.mg x = none) (hv : bootBuiltins x = some (.builtin id)) (ha : CA X T W (e :: es) dl)
    (hn : x ≠ "__name__" := by decide) (hdb : (x == ("__debug__" : Str)) = false := by decide) (he : starEach (e :: es) X.env = (false, eval e X.env) :: starEach es X.env := by rfl) (hpl : (backTo pos (starEach es X.env)).any (·.1) = false := by rfl) :
    CE X T W (.Call (.Name x p) (e :: es) [] pos) (dCB f dl) := pe_imp (pe_callB hc hg hm hv ha hn hdb he hpl) fun σ H Q h => cb_of hs h
theorem ce_callTy {f : List PV → Sto → Res PV} {r : List V → Hp → VK → Prop} {x : Str} {ty : String} {p : Pos} (hc : CallR X (.type ty) r) (hs : SndL (gm X T) r f) (hg : Gl X x) (hm : X.mg x = none) (hv : bootBuiltins x = some (.type ty)) (ha : CA X T W (e :: es) dl)
    (hn : x ≠ "__name__" := by decide) (hdb : (x == ("__debug__" : Str)) = false := by decide) (he : starEach (e :: es) X.env = (false, eval e X.env) :: starEach es X.env := by rfl) (hpl : (backTo pos (starEach es X.env)).any (·.1) = false := by rfl) :
    CE X T W (.Call (.Name x p) (e :: es) [] pos) (dCB f dl) := pe_imp (pe_callTy hc hg hm hv ha hn hdb he hpl) fun σ H Q h => cb_of hs h
end

/-! ### subscripts, slices -/
def fIx : PV → PV → Sto → Res PV
  | .str s, .int i, S => match atI s.cps.toList i with
    | some c => if s.length ≤ lim then .ok (.str ⟨#[c]⟩) S else .bad
    | none => .bad
  | x, .int i, S => match seqOf x S with
    | some xs => (match atI xs i with
      | some v => .ok v S
      | none => .bad)
    | none => .bad
  | _, _, _ => .bad
def cutP (xs : List PV) (lo hi : Option Int) : List PV := (xs.drop (HT.sIx xs.length 0 lo)).take (HT.sIx xs.length xs.length hi - HT.sIx xs.length 0 lo)
def fSl (mt : Bool) (x : PV) (lo hi : Option Int) (S : Sto) : Res PV := match x with
  | .tup xs => mkTup (cutP xs lo hi) S
  | .str s => if s.length ≤ lim then .ok (.str (cutS s lo hi)) S else .bad
  | x => match lstOf x S with
    | some xs => mkLst mt (cutP xs lo hi) S
    | none => .bad
def dNoPart : EnP → Sto → Res (Option Int) := fun _ S => .ok none S
def dPart (d : EnP → Sto → Res PV) : EnP → Sto → Res (Option Int) := fun ρ S => (d ρ S).bind fun x S1 => match x with
  | .int i => .ok (some i) S1
  | _ => .bad
def dSl (mt : Bool) (d : EnP → Sto → Res PV) (lo hi : EnP → Sto → Res (Option Int)) : EnP → Sto → Res PV := fun ρ S => (d ρ S).bind fun x S1 => (lo ρ S1).bind fun l S2 => (hi ρ S2).bind fun h S3 => fSl mt x l h S3
abbrev tpart (g : Gm) (W : WX) (d : EnP → Sto → Res (Option Int)) : TO := tr g W (fun _ _ a b => a = b) d
abbrev CO (X : Cx) (T : Tb) (W : WX) (e : Option Expr) (d : EnP → Sto → Res (Option Int)) : Prop := PO X e (tpart (gm X T) W d)
theorem po_imp {X : Cx} {e : Option Expr} {t t' : TO} (h : PO X e t) (w : ∀ σ H Q, t' σ H Q → t σ H Q) : PO X e t' := ⟨fun pins s σ H Q I q => h.run pins s σ H Q I (w σ H Q q)⟩
theorem atI_rep {g : Gm} {m : Mm} {H : Hp} {xs : List PV} {vs : List V} {i : Int} {x : PV} (r : RepL g m H xs vs) (h : atI xs i = some x) : ∃ v, atI vs i = some v ∧ Rep g m H x v := by
  unfold atI at h ⊢
  rw [← r.length]
  cases e : ixN xs.length i with
  | none => rw [e] at h; cases h
  | some j =>
    rw [e] at h
    exact r.get h
section
variable {X : Cx} {T : Tb} {W : WX} {pos p2 : Pos} {a b : Expr} {lo hi : Option Expr} {da db : EnP → Sto → Res PV} {dlo dhi : EnP → Sto → Res (Option Int)}
theorem sn_ix : Snd (gm X T) (rIx X.K) fIx := by
  intro W σ m S H x y v u Q hS rx ry p
  unfold fIx at p
  split at p
  · cases rep_str rx
    cases rep_int ry
    split at p
    · rename_i c e
      split at p
      · rename_i h
        exact .inr (.inr ⟨_, _, c, rfl, rfl, lim_line h, e, p.here hS (mk_str _)⟩)
      · exact p.elim
    · exact p.elim
  · cases rep_int ry
    split at p
    · rename_i xs e
      split at p
      · rename_i z e2
        obtain ⟨a, vs, rfl, h1, h2⟩ := seqOf_rep hS rx e
        obtain ⟨w, e3, r3⟩ := atI_rep h2 e2
        rcases h1 with h1 | h1
        · exact .inl ⟨a, vs, _, w, rfl, rfl, h1, e3, p.here hS r3⟩
        · exact .inr (.inl ⟨a, vs, _, w, rfl, rfl, h1, e3, p.here hS r3⟩)
      · exact p.elim
    · exact p.elim
  · exact p.elim
theorem ce_ix (ha : CE X T W a da) (hb : CE X T W b db) (hs : PlainIx b) : CE X T W (.Subscript a b pos) (dBin fIx da db) := pe_imp (pe_ix ix_seq ha hb hs) fun σ H Q h => two_of sn_ix h
theorem co_none : CO X T W none dNoPart := po_imp po_none fun σ H Q ⟨ρ, S, m, hE, hS, p⟩ => PostR.here (a := (none : Option Int)) p hS rfl
theorem co_some (h : CE X T W a da) : CO X T W (some a) (dPart da) :=
  po_imp (po_some h) fun σ H Q ⟨ρ, S, m, hE, hS, p⟩ => tr_bind (f := fun (x : PV) (ρ : EnP) (S1 : Sto) => match x with | .int i => Res.ok (some i) S1 | _ => .bad) hE hS p fun x S1 m1 H1 w s1 hE1 hS1 hr1 p1 => by
    cases x with
    | int i => exact ⟨i, rep_int hr1, PostR.here (a := some i) p1 hS1 rfl⟩
    | _ => exact p1.elim
def rSlM (K : PySem.W.Frag) : V → Option Int → Option Int → Hp → VK → Prop := fun x lo hi H Q => (rSlL K x lo hi H Q ∨ rSlA K x lo hi H Q) ∨ rSlS x lo hi H Q
theorem sl_M : SlR X (rSlM X.K) := (sl_list.or sl_tupA).or sl_str
theorem cutP_rep {g : Gm} {m : Mm} {H : Hp} {xs : List PV} {vs : List V} (r : RepL g m H xs vs) (lo hi : Option Int) : RepL g m H (cutP xs lo hi) (cutV vs lo hi) := by
  unfold cutP cutV
  rw [← r.length]
  exact (r.drop _).take _
theorem sn_sl (mt : Bool) {g : Gm} (hb : mt = true → Bare g) {W : WX} {σ : L2.St} {m : Mm} {S : Sto} {H : Hp} {x : PV} {v : V} {l h : Option Int} {Q : VK} (hS : RelS g m S H) (rx : Rep g m H x v) (p : PostV g W σ m H Q (fSl mt x l h S)) : rSlM g.K v l h H Q := by
  have lst : PostV g W σ m H Q (match lstOf x S with | some xs => mkLst mt (cutP xs l h) S | none => .bad) → rSlM g.K v l h H Q := fun p => by
    cases e : lstOf x S with
    | none => rw [e] at p; exact p.elim
    | some xs =>
      rw [e] at p
      obtain ⟨a, vs, rfl, h1, h2⟩ := lstOf_rep hS rx e
      exact .inl (.inl ⟨a, vs, rfl, h1, (new_lst hb hS (cutP_rep h2 l h) p).2⟩)
  cases x with
  | tup xs =>
    have p : PostV g W σ m H Q (mkTup (cutP xs l h) S) := p
    obtain ⟨a, vs, rfl, h1, h2⟩ := tup_rep rx
    refine .inl (.inr ⟨a, vs, rfl, h1, fun ⟨z1, z2⟩ => ?_, fun _ => (new_tup hS (cutP_rep h2 l h) p).2⟩)
    have e : cutP xs l h = xs := by
      unfold cutP
      rw [h2.length, z1, z2, ← h2.length]
      simp
    rw [e] at p
    unfold mkTup at p
    split at p
    · exact p.here hS rx
    · exact p.elim
  | str s =>
    rw [rep_str rx]
    simp only [fSl] at p
    split at p
    · rename_i z
      exact .inr ⟨s, rfl, lim_line z, p.here hS (mk_str _)⟩
    · exact p.elim
  | _ => exact lst p
theorem ce_sl (mt : Bool) (hb : mt = true → Bare (gm X T)) (ha : CE X T W a da) (hl : CO X T W lo dlo) (hu : CO X T W hi dhi) : CE X T W (.Subscript a (.Slice lo hi none p2) pos) (dSl mt da dlo dhi) :=
  pe_imp (pe_slice sl_M ha hl hu) fun σ H Q ⟨ρ, S, m, hE, hS, p⟩ =>
    tr_bind (f := fun (x : PV) (ρ : EnP) (S1 : Sto) => (dlo ρ S1).bind fun l S2 => (dhi ρ S2).bind fun h S3 => fSl mt x l h S3) hE hS p fun x S1 m1 H1 w s1 hE1 hS1 hr1 p1 =>
    tr_bind (f := fun (l : Option Int) (ρ : EnP) (S2 : Sto) => (dhi ρ S2).bind fun h S3 => fSl mt x l h S3) hE1 hS1 p1 fun l S2 m2 H2 l' s2 hE2 hS2 hr2 p2 =>
    tr_bind (f := fun (h : Option Int) (ρ : EnP) (S3 : Sto) => fSl mt x l h S3) hE2 hS2 p2 fun h S3 m3 H3 h' s3 hE3 hS3 hr3 p3 => by
      cases hr2
      cases hr3
      exact sn_sl mt hb hS3 (hr1.step (s2.trans s3)) p3
end

/-! ### built-ins -/
def fLen : List PV → Sto → Res PV
  | [x], S => (match x with
    | .str s => if s.length ≤ lim then .ok (.int s.length) S else .bad
    | x => match seqOf x S with
      | some xs => .ok (.int xs.length) S
      | none => .bad)
  | _, _ => .bad
def fAbs : List PV → Sto → Res PV
  | [.int i], S => .ok (.int (if i < 0 then -i else i)) S
  | _, _ => .bad
def fInt : List PV → Sto → Res PV
  | [.int i], S => .ok (.int i) S
  | [.bl k], S => .ok (.int (if k then 1 else 0)) S
  | _, _ => .bad
def fIntS : List PV → Sto → Res PV
  | [.str a], S => (match PySem.intText? a with
    | some n => if a.length ≤ 640 then .ok (.int n) S else .bad
    | none => .bad)
  | _, _ => .bad
def blsOf : List PV → Option (List Bool)
  | [] => some []
  | .bl b :: r => (match blsOf r with
    | some bs => some (b :: bs)
    | none => none)
  | _ :: _ => none
def fAll : List PV → Sto → Res PV
  | [x], S => (match lstOf x S with
    | some xs => (match blsOf xs with
      | some bs => .ok (.bl (bs.all id)) S
      | none => .bad)
    | none => .bad)
  | _, _ => .bad
def fAny : List PV → Sto → Res PV
  | [x], S => (match lstOf x S with
    | some xs => (match blsOf xs with
      | some bs => .ok (.bl (bs.any id)) S
      | none => .bad)
    | none => .bad)
  | _, _ => .bad
def fTuple : List PV → Sto → Res PV
  | [.tup xs], S => .ok (.tup xs) S
  | [x], S => (match lstOf x S with
    | some xs => if xs.length ≤ lim then .ok (.tup xs) S else .bad
    | none => .bad)
  | _, _ => .bad
def fList (mt : Bool) : List PV → Sto → Res PV
  | [x], S => (match seqOf x S with
    | some xs => mkLst mt xs S
    | none => .bad)
  | _, _ => .bad
def fMax : List PV → Sto → Res PV
  | [.int i, .int j], S => .ok (.int (if j > i then j else i)) S
  | _, _ => .bad
def fMin : List PV → Sto → Res PV
  | [.int i, .int j], S => .ok (.int (if j < i then j else i)) S
  | _, _ => .bad
def tyName : PV → Sto → Option String
  | .non, _ => some "NoneType"
  | .bl _, _ => some "bool"
  | .int _, _ => some "int"
  | .str _, _ => some "str"
  | .tup _, _ => some "tuple"
  | .nd _ _, _ => some "dict"
  | x, S => match lstT x S with
    | some _ => some "list"
    | none => none
def fIsi : List PV → Sto → Res PV
  | [x, .ty n], S => (match tyName x S with
    | some a => (match kitB a n with
      | some b => .ok (.bl b) S
      | none => .bad)
    | none => .bad)
  | _, _ => .bad
/-- repr of data -/
def fRepr : List PV → Sto → Res PV
  | [x], S => (match toDS x S with
    | some d => if d.showable = true ∧ d.depth ≤ 64 ∧ d.shown.length ≤ lim then .ok (.str d.shown) S else .bad
    | none => .bad)
  | _, _ => .bad
def fStrI : List PV → Sto → Res PV
  | [.int i], S => if i.natAbs.log2 < 1920 then .ok (.str (toString i)) S else .bad
  | _, _ => .bad
section
variable {X : Cx} {T : Tb}
theorem one_rep {g : Gm} {m : Mm} {H : Hp} {x : PV} {vs : List V} (r : RepL g m H [x] vs) : ∃ v, vs = [v] ∧ Rep g m H x v := by
  unfold RepL at r
  obtain ⟨v, ws, rfl, h, r⟩ := r
  unfold RepL at r
  subst r
  exact ⟨v, rfl, h⟩
theorem two_rep {g : Gm} {m : Mm} {H : Hp} {x y : PV} {vs : List V} (r : RepL g m H [x, y] vs) : ∃ v u, vs = [v, u] ∧ Rep g m H x v ∧ Rep g m H y u := by
  unfold RepL at r
  obtain ⟨v, ws, rfl, h, r⟩ := r
  obtain ⟨u, rfl, h2⟩ := one_rep r
  exact ⟨v, u, rfl, h, h2⟩
theorem sl_len : SndL (gm X T) (fun xs H Q => ∃ x n, xs = [x] ∧ LenV X.K x H n ∧ Q (.int n) H) fLen := by
  intro W σ m S H xs vs Q hS r p
  unfold fLen at p
  split at p
  · rename_i x
    obtain ⟨v, rfl, rx⟩ := one_rep r
    have sq : PostV (gm X T) W σ m H Q (match seqOf x S with | some xs => .ok (.int xs.length) S | none => .bad) → ∃ y n, [v] = [y] ∧ LenV X.K y H n ∧ Q (.int n) H := fun p => by
      cases e : seqOf x S with
      | none => rw [e] at p; exact p.elim
      | some xs =>
        rw [e] at p
        obtain ⟨a, ws, rfl, h1, h2⟩ := seqOf_rep hS rx e
        refine ⟨.ref a, xs.length, rfl, ?_, p.here hS (mk_int _)⟩
        rcases h1 with h1 | h1
        · exact .inl ⟨ws, h1, h2.length⟩
        · exact .inr ⟨ws, h1, h2.length⟩
    cases x with
    | str s =>
      rw [rep_str rx]
      have p : PostV (gm X T) W σ m H Q (if s.length ≤ lim then .ok (.int s.length) S else .bad) := p
      split at p
      · rename_i h
        exact ⟨_, _, rfl, ⟨lim_line h, rfl⟩, p.here hS (mk_int _)⟩
      · exact p.elim
    | _ => exact sq p
  · exact p.elim
theorem sl_abs : SndL (gm X T) (fun xs H Q => ∃ i, xs = [.int i] ∧ Q (.int (if i < 0 then -i else i)) H) fAbs := by
  intro W σ m S H xs vs Q hS r p
  unfold fAbs at p
  split at p
  · obtain ⟨v, rfl, rx⟩ := one_rep r
    cases rep_int rx
    exact ⟨_, rfl, p.here hS (mk_int _)⟩
  · exact p.elim
theorem sl_int : SndL (gm X T) (fun xs H Q => (∃ i, xs = [.int i] ∧ Q (.int i) H) ∨ ∃ k, xs = [.bl k] ∧ Q (.int (if k then 1 else 0)) H) fInt := by
  intro W σ m S H xs vs Q hS r p
  unfold fInt at p
  split at p
  · obtain ⟨v, rfl, rx⟩ := one_rep r
    cases rep_int rx
    exact .inl ⟨_, rfl, p.here hS (mk_int _)⟩
  · obtain ⟨v, rfl, rx⟩ := one_rep r
    cases rep_bl rx
    exact .inr ⟨_, rfl, p.here hS (mk_int _)⟩
  · exact p.elim
theorem bls_rep {g : Gm} {m : Mm} {H : Hp} : ∀ {xs : List PV} {vs : List V} {bs : List Bool}, RepL g m H xs vs → blsOf xs = some bs → vs = bs.map V.bl
  | [], vs, bs, r, e => by unfold RepL at r; unfold blsOf at e; cases e; rw [r]; rfl
  | x :: xs, vs, bs, r, e => by
    unfold RepL at r
    obtain ⟨v, ws, rfl, h1, h2⟩ := r
    cases x with
    | bl b =>
      simp only [blsOf] at e
      split at e
      · rename_i bs' e'
        cases e
        rw [rep_bl h1, bls_rep h2 e']
        rfl
      · cases e
    | _ => cases e
theorem sl_all : SndL (gm X T) (rAll X.K) fAll := by
  intro W σ m S H xs vs Q hS r p
  unfold fAll at p
  split at p
  · obtain ⟨v, rfl, rx⟩ := one_rep r
    split at p
    · rename_i xs e
      split at p
      · rename_i bs e2
        obtain ⟨a, ws, rfl, h1, h2⟩ := lstOf_rep hS rx e
        have z := bls_rep h2 e2
        rw [z] at h1
        exact ⟨a, bs, rfl, h1, p.here hS (mk_bl _)⟩
      · exact p.elim
    · exact p.elim
  · exact p.elim
theorem sl_any : SndL (gm X T) (rAny X.K) fAny := by
  intro W σ m S H xs vs Q hS r p
  unfold fAny at p
  split at p
  · obtain ⟨v, rfl, rx⟩ := one_rep r
    split at p
    · rename_i xs e
      split at p
      · rename_i bs e2
        obtain ⟨a, ws, rfl, h1, h2⟩ := lstOf_rep hS rx e
        have z := bls_rep h2 e2
        rw [z] at h1
        exact ⟨a, bs, rfl, h1, p.here hS (mk_bl _)⟩
      · exact p.elim
    · exact p.elim
  · exact p.elim
theorem sl_tuple : SndL (gm X T) (fun xs H Q => ∃ p ys, xs = [.ref p] ∧ ((SqL X.K H p ys ∧ ∀ l, H l = none → Q (.ref l) (upd H l (.tup ys))) ∨ (SqT X.K H p ys ∧ Q (.ref p) H))) fTuple := by
  intro W σ m S H xs vs Q hS r p
  unfold fTuple at p
  split at p
  · obtain ⟨v, rfl, rx⟩ := one_rep r
    obtain ⟨a, ws, rfl, h1, h2⟩ := tup_rep rx
    exact ⟨a, ws, rfl, .inr ⟨h1, p.here hS rx⟩⟩
  · obtain ⟨v, rfl, rx⟩ := one_rep r
    split at p
    · rename_i xs e
      split at p
      · rename_i z
        obtain ⟨a, ws, rfl, h1, h2⟩ := lstOf_rep hS rx e
        refine ⟨a, ws, rfl, .inl ⟨h1, (new_tup (W := W) (σ := σ) hS h2 ?_).2⟩⟩
        unfold mkTup
        rw [if_pos z]
        exact p
      · exact p.elim
    · exact p.elim
  · exact p.elim
theorem sl_list (mt : Bool) (hb : mt = true → Bare (gm X T)) : SndL (gm X T) (fun xs H Q => ∃ p ys, xs = [.ref p] ∧ (SqL X.K H p ys ∨ SqT X.K H p ys) ∧ ∀ l, H l = none → Q (.ref l) (upd H l (.lst ys))) (fList mt) := by
  intro W σ m S H xs vs Q hS r p
  unfold fList at p
  split at p
  · obtain ⟨v, rfl, rx⟩ := one_rep r
    split at p
    · rename_i xs e
      obtain ⟨a, ws, rfl, h1, h2⟩ := seqOf_rep hS rx e
      exact ⟨a, ws, rfl, h1, (new_lst hb hS h2 p).2⟩
    · exact p.elim
  · exact p.elim
theorem sl_max : SndL (gm X T) (fun xs H Q => ∃ i j, xs = [.int i, .int j] ∧ Q (.int (if j > i then j else i)) H) fMax := by
  intro W σ m S H xs vs Q hS r p
  unfold fMax at p
  split at p
  · obtain ⟨v, u, rfl, rx, ry⟩ := two_rep r
    cases rep_int rx
    cases rep_int ry
    exact ⟨_, _, rfl, p.here hS (mk_int _)⟩
  · exact p.elim
theorem sl_min : SndL (gm X T) (fun xs H Q => ∃ i j, xs = [.int i, .int j] ∧ Q (.int (if j < i then j else i)) H) fMin := by
  intro W σ m S H xs vs Q hS r p
  unfold fMin at p
  split at p
  · obtain ⟨v, u, rfl, rx, ry⟩ := two_rep r
    cases rep_int rx
    cases rep_int ry
    exact ⟨_, _, rfl, p.here hS (mk_int _)⟩
  · exact p.elim
theorem sqT_ty {K : PySem.W.Frag} {H : Hp} {a : Addr} {vs : List V} (h : SqT K H a vs) : TyX K H (.ref a) (.type "tuple") := by
  rcases h with (h | ⟨o, h⟩) | ⟨o, its, n, h, c, _⟩
  · exact .base (.tup h)
  · exact .fTuple h
  · exact .kTuple h c
theorem ty_rep {g : Gm} {m : Mm} {S : Sto} {H : Hp} {x : PV} {v : V} {a : String} (hS : RelS g m S H) (r : Rep g m H x v) (e : tyName x S = some a) : TyX g.K H v (.type a) := by
  have lst : (match lstT x S with | some _ => some "list" | none => none) = some a → TyX g.K H v (.type a) := fun e => by
    cases q : lstT x S with
    | none => rw [q] at e; cases e
    | some xs =>
      rw [q] at e
      cases e
      obtain ⟨b, vs, rfl, h, _⟩ := lstT_rep hS r q
      exact .base (.lst h)
  cases x with
  | non => cases e; rw [rep_non r]; exact .base .non
  | bl b => cases e; rw [rep_bl r]; exact .base (.bl b)
  | int b => cases e; rw [rep_int r]; exact .base (.int b)
  | str b => cases e; rw [rep_str r]; exact .base (.str b)
  | tup xs => cases e; obtain ⟨b, vs, rfl, h, _⟩ := tup_rep r; exact sqT_ty h
  | nd ks xs => cases e; unfold Rep at r; obtain ⟨b, vs, rfl, _, h, _⟩ := r; exact .base (.dK h)
  | _ => exact lst e
theorem sl_isi : SndL (gm X T) (rIsi X.K) fIsi := by
  intro W σ m S H xs vs Q hS r p
  unfold fIsi at p
  split at p
  · obtain ⟨v, u, rfl, rx, ry⟩ := two_rep r
    cases rep_ty ry
    split at p
    · rename_i a e
      split at p
      · rename_i b e2
        exact ⟨v, _, _, _, b, rfl, .ty _, ty_rep hS rx e, kit_ty e2, p.here hS (mk_bl _)⟩
      · exact p.elim
    · exact p.elim
  · exact p.elim
theorem sl_strI : SndL (gm X T) (fun xs H Q => ∃ i, xs = [.int i] ∧ i.natAbs.log2 < 1920 ∧ Q (.str (toString i)) H) fStrI := by
  intro W σ m S H xs vs Q hS r p
  unfold fStrI at p
  split at p
  · obtain ⟨v, rfl, rx⟩ := one_rep r
    cases rep_int rx
    split at p
    · rename_i h
      exact ⟨_, rfl, h, p.here hS (mk_str _)⟩
    · exact p.elim
  · exact p.elim
/-- repr of data, by values: no repr is under way -/
def rRepr (K : PySem.W.Frag) : List V → Hp → VK → Prop := fun xs H Q => ∃ x d, xs = [x] ∧ Dp K H x d ∧ d.showable = true ∧ d.hasDict = false ∧ d.depth ≤ 64 ∧ d.shown.length ≤ sizeLine ∧ Q (.str d.shown) H
theorem call_reprD (hg : X.A.guards = some []) (hu : X.A.units + 80 < cLine) : CallR X (.builtin "repr") (rRepr X.K) := by
  intro pins s σ H xs us Q I r h
  obtain ⟨x, d, rfl, hd, sh, hz, dp, ln, q⟩ := h
  obtain ⟨u, rfl, rx⟩ := vals1 r
  obtain ⟨as, rd⟩ := Dp.reads I d x u hd rx
  have big : ∀ a, u = Value.ref a → wpAny (model X.prog X.w) X.A (call (.builtin "repr") [u]) (EP X pins σ Q) X.xe s := fun a e => by
    subst e
    exact repr_of_reads' rd sh (PyData.noDict_hsm hz) hg (by omega) (fun _ _ e => e) (fun h' t tk hk => ⟨.str d.shown, H, I.kept hk, ⟨_, rfl⟩, q⟩) ln
  cases hd with
  | non =>
    cases rx
    refine PySem.P.repr_of_none ⟨.str (PyData.none).shown, H, I.tok _, ⟨s.toks, ?_⟩, q⟩
    simp only [PyData.shown]
  | bl b =>
    cases rx
    refine PySem.P.repr_of_bool ⟨.str (PyData.bool b).shown, H, I.tok _, ⟨s.toks, ?_⟩, q⟩
    simp only [PyData.shown] <;> (cases b <;> rfl)
  | int i =>
    obtain ⟨t, rfl⟩ := rx
    refine PySem.P.repr_of_int (by simpa only [PyData.showable, decide_eq_true_eq] using sh) ⟨.str (PyData.int i).shown, H, I.tok _, ⟨s.toks, ?_⟩, q⟩
    simp only [PyData.shown]
  | str y =>
    obtain ⟨t, rfl⟩ := rx
    refine PySem.P.repr_of_str ⟨.str (PyData.str y).shown, H, I.tok _, ⟨s.toks, ?_⟩, q⟩ (by simpa only [PyData.shown] using ln)
    simp only [PyData.shown]
  | lst h1 h2 => exact big _ rx
  | tup h1 h2 => exact big _ rx
mutual
theorem toD_noDict : ∀ (x : PV) (d : PyData), toD x = some d → d.hasDict = false
  | .non, d, e => by unfold toD at e; cases e; simp only [PyData.hasDict]
  | .bl b, d, e => by unfold toD at e; cases e; simp only [PyData.hasDict]
  | .int b, d, e => by unfold toD at e; cases e; simp only [PyData.hasDict]
  | .str b, d, e => by unfold toD at e; cases e; simp only [PyData.hasDict]
  | .tup xs, d, e => by
    unfold toD at e
    cases q : toDL xs with
    | none => rw [q] at e; cases e
    | some ds => rw [q] at e; cases e; simp only [PyData.hasDict]; exact toDL_noDict xs ds q
  | .nl xs, d, e => by
    unfold toD at e
    cases q : toDL xs with
    | none => rw [q] at e; cases e
    | some ds => rw [q] at e; cases e; simp only [PyData.hasDict]; exact toDL_noDict xs ds q
  | .fl xs, d, e => by
    unfold toD at e
    cases q : toDL xs with
    | none => rw [q] at e; cases e
    | some ds => rw [q] at e; cases e; simp only [PyData.hasDict]; exact toDL_noDict xs ds q
  | .nd _ _, _, e => by unfold toD at e; cases e
  | .ref _, _, e => by unfold toD at e; cases e
  | .ty _, _, e => by unfold toD at e; cases e
  | .glb _, _, e => by unfold toD at e; cases e
  | .err, _, e => by unfold toD at e; cases e
  | .lam, _, e => by unfold toD at e; cases e
theorem toDL_noDict : ∀ (xs : List PV) (ds : List PyData), toDL xs = some ds → PyData.hasDictAll ds = false
  | [], ds, e => by unfold toDL at e; cases e; simp only [PyData.hasDictAll]
  | x :: xs, ds, e => by
    unfold toDL at e
    cases q1 : toD x with
    | none => rw [q1] at e; cases e
    | some d =>
      cases q2 : toDL xs with
      | none => rw [q1, q2] at e; cases e
      | some es => rw [q1, q2] at e; cases e; simp only [PyData.hasDictAll, toD_noDict x d q1, toDL_noDict xs es q2, Bool.or_self]
end
theorem toDS_noDict {x : PV} {S : Sto} {d : PyData} (e : toDS x S = some d) : d.hasDict = false := by
  cases x with
  | ref n =>
    simp only [toDS] at e
    cases q : S[n]? with
    | none => rw [q] at e; cases e
    | some o =>
      cases o with
      | lst xs =>
        rw [q] at e
        have e : (toDL xs).map PyData.list = some d := e
        cases q2 : toDL xs with
        | none => rw [q2] at e; cases e
        | some ds => rw [q2] at e; cases e; simp only [PyData.hasDict]; exact toDL_noDict xs ds q2
  | _ => exact toD_noDict _ d e
theorem sl_repr : SndL (gm X T) (rRepr X.K) fRepr := by
  intro W σ m S H xs vs Q hS r p
  unfold fRepr at p
  split at p
  · obtain ⟨v, rfl, rx⟩ := one_rep r
    split at p
    · rename_i d e
      split at p
      · rename_i h
        exact ⟨v, d, rfl, dpS_of hS rx e, h.1, toDS_noDict e, h.2.1, lim_line h.2.2, p.here hS (mk_str _)⟩
      · exact p.elim
    · exact p.elim
  · exact p.elim
/-- x in a list of data -/
def fInD (neg : Bool) (x y : PV) (S : Sto) : Res PV := match toDS x S, toDS y S with
  | some d, some (.list ds) => if SeqAt.shaped d = true ∧ SeqAt.shaped (.list ds) = true then .ok (.bl (if neg = true then !(ds.any fun z => PyData.eqv z d) else ds.any fun z => PyData.eqv z d)) S else .bad
  | _, _ => .bad
theorem sn_inD : Snd (gm X T) (rInD X.K) (fInD false) := by
  intro W σ m S H x y v u Q hS rx ry p
  unfold fInD at p
  split at p
  · rename_i d ds h1 h2
    split at p
    · rename_i h
      exact ⟨d, ds, dpS_of hS rx h1, dpS_of hS ry h2, h.1, h.2, p.here hS (mk_bl _)⟩
    · exact p.elim
  · exact p.elim
theorem sn_notInD : Snd (gm X T) (rNotInD X.K) (fInD true) := by
  intro W σ m S H x y v u Q hS rx ry p
  unfold fInD at p
  split at p
  · rename_i d ds h1 h2
    split at p
    · rename_i h
      exact ⟨d, ds, dpS_of hS rx h1, dpS_of hS ry h2, h.1, h.2, p.here hS (mk_bl _)⟩
    · exact p.elim
  · exact p.elim
end
/-! ### xs.append(e) -/
def fApp (n : Nat) (y : PV) (S : Sto) : Res PV := match S[n]? with
  | some (SO.lst xs) => if xs.length < lim then .ok .non (S.set n (SO.lst (xs ++ [y]))) else .bad
  | none => .bad
def dApp (d : EnP → Sto → Res PV) (dl : EnP → Sto → Res (List PV)) : EnP → Sto → Res PV := fun ρ S => (d ρ S).bind fun x S1 => match x with
  | .ref n => (dl ρ S1).bind fun ys S2 => (match ys with
    | [y] => fApp n y S2
    | _ => .bad)
  | _ => .bad
section
variable {X : Cx} {T : Tb} {W : WX} {o e : Expr} {es : List Expr} {d : EnP → Sto → Res PV} {dl : EnP → Sto → Res (List PV)} {apos cpos : Pos}
theorem ref_rep {g : Gm} {m : Mm} {S : Sto} {H : Hp} {n : Nat} {v : V} {xs : List PV} (hS : RelS g m S H) (r : Rep g m H (.ref n) v) (e : S[n]? = some (SO.lst xs)) : ∃ a vs, m.ix[n]? = some a ∧ v = .ref a ∧ H a = some (HO.lst vs) ∧ RepL g m H xs vs := by
  obtain ⟨a, vs, f1, f2, f3⟩ := hS.at_ n xs e
  unfold Rep at r
  obtain ⟨b, e1, e2⟩ := r
  rw [f1] at e1; cases e1
  exact ⟨a, vs, f1, e2, f2, RepL.up _ _ f3⟩
theorem ref_any {g : Gm} {m : Mm} {S : Sto} {H : Hp} {n : Nat} {v : V} (hS : RelS g m S H) (r : Rep g m H (.ref n) v) : ∃ a xs vs, m.ix[n]? = some a ∧ v = .ref a ∧ S[n]? = some (SO.lst xs) ∧ H a = some (HO.lst vs) ∧ RepL g m H xs vs := by
  have r0 := r
  unfold Rep at r
  obtain ⟨a, e1, e2⟩ := r
  have hn : n < S.length := by rw [← hS.len]; exact (List.getElem?_eq_some_iff.mp e1).1
  cases q : S[n] with
  | lst xs =>
    have e3 : S[n]? = some (SO.lst xs) := by rw [List.getElem?_eq_getElem hn, q]
    obtain ⟨b, vs, g1, g2, g3, g4⟩ := ref_rep hS r0 e3
    exact ⟨b, xs, vs, g1, g2, e3, g3, g4⟩
theorem ce_app (hb : Bare (gm X T)) (ho : CE X T W o d) (ha : CA X T W (e :: es) dl)
    (hbase : attributeBase o "append" X.env (eval o X.env) = eval o X.env := by rfl)
    (hfew : ((backTo cpos (starEach (e :: es) X.env)).all (fun x => !x.1) && (backToKw cpos (keywordEach [] X.env)).all (fun x => x.1.isSome)
      && decide ((e :: es).length + ([] : List Keyword).length + (if ([] : List Keyword).isEmpty then 0 else 1) < 30)) = true := by rfl)
    (hline : (apos.endLine == cpos.line) = true := by rfl) (hs : starEach (e :: es) X.env = (false, eval e X.env) :: starEach es X.env := by rfl) (hplain : (backTo cpos (starEach es X.env)).any (·.1) = false := by rfl) :
    CE X T W (.Call (.Attribute o "append" apos) (e :: es) [] cpos) (dApp d dl) :=
  pe_imp (pe_bm PySem.F.plainAttrs_list PySem.F.slot_list_append PySem.F.type_list_append mt_append ho ha hbase hfew hline hs hplain) fun σ H Q ⟨ρ, S, m, hE, hS, p⟩ =>
    tr_bind (f := fun (x : PV) (ρ : EnP) (S1 : Sto) => match x with | .ref n => (dl ρ S1).bind fun ys S2 => (match ys with | [y] => fApp n y S2 | _ => .bad) | _ => .bad) hE hS p fun x S1 m1 H1 w s1 hE1 hS1 hr1 p1 => by
      cases x with
      | ref n =>
        obtain ⟨a, xs0, vs0, e1, rfl, _, f2, _⟩ := ref_any hS1 hr1
        refine ⟨.inl ⟨rfl, vs0, .inl (.inl f2)⟩, tr_bind (f := fun (ys : List PV) (ρ : EnP) (S2 : Sto) => match ys with | [y] => fApp n y S2 | _ => .bad) hE1 hS1 p1 fun ys S2 m2 H2 ws s2 hE2 hS2 hr2 p2 => ?_⟩
        split at p2
        · rename_i y
          obtain ⟨u, rfl, ru⟩ := one_rep hr2
          unfold fApp at p2
          split at p2
          · rename_i xs e3
            split at p2
            · rename_i hl
              obtain ⟨a', vs, g1, g2, g3, g4⟩ := ref_rep hS2 (hr1.step s2) e3
              cases g2
              have hn2 : n < S2.length := (List.getElem?_eq_some_iff.mp e3).1
              refine ⟨a, vs, u, rfl, rfl, g3, ?_, ?_⟩
              · rw [sizeLine_eq, ← g4.length]; exact hl
              · exact p2 m2 _ _ (step_write (List.mem_of_getElem? g1) g3) (hS2.write hb g1 hn2 g3 (g4.append (RepL.cons ru RepL.nil))) mk_non
            · exact p2.elim
          · exact p2.elim
        · exact p2.elim
      | _ => exact p1.elim
end
end Mi
end
section
set_option Elab.async false
set_option linter.all false
set_option maxRecDepth 100000
set_option maxHeartbeats 2000000
namespace Mi
open PySem PySem.Spec PyProof.Rows L2

/-! ### statements -/
/-- an expression's answer within a block -/
def sE {α : Type} (r : Res α) (ρ : EnP) (k : α → Sto → SR) : SR := match r with
  | .ok a S => k a S
  | .exc c fs S => .exc c fs ρ S
  | .bad => .bad
@[simp] theorem sE_ok {α : Type} (a : α) (S : Sto) (ρ : EnP) (k : α → Sto → SR) : sE (.ok a S) ρ k = k a S := rfl
@[simp] theorem sE_exc {α : Type} (c : Str) (fs : List (Str × PV)) (S : Sto) (ρ : EnP) (k : α → Sto → SR) : sE (.exc c fs S) ρ k = .exc c fs ρ S := rfl
@[simp] theorem sE_bad {α : Type} (ρ : EnP) (k : α → Sto → SR) : sE .bad ρ k = .bad := rfl
theorem ts_bind {α β : Type} {g : Gm} {W : WX} {R : Mm → Hp → α → β → Prop} {d : EnP → Sto → Res α} {k : α → Sto → SR} {D : Ends} {σ : L2.St} {H : Hp} {ρ : EnP} {S : Sto} {m : Mm} (hE : RelE g m H ρ σ) (hS : RelS g m S H) (p : PostS g W D m H (sE (d ρ S) ρ k)) {Q1 : β → Hp → Prop}
    (h : ∀ a S1 m1 H1 w, Step m H m1 H1 → RelE g m1 H1 ρ σ → RelS g m1 S1 H1 → R m1 H1 a w → PostS g W D m1 H1 (k a S1) → Q1 w H1) : tr g W R d σ H Q1 := by
  refine ⟨ρ, S, m, hE, hS, ?_⟩
  cases hd : d ρ S with
  | ok a S1 =>
    rw [hd] at p
    exact fun m' H' w s h1 h2 => h a S1 m' H' w s (hE.step s) h1 h2 (PostS.step s p)
  | exc c fs S1 =>
    rw [hd] at p
    exact fun m' H' cls dd s h1 h2 => p m' H' σ cls dd s h1 (hE.step s) h2
  | bad =>
    rw [hd] at p
    exact p.elim
theorem PostS.nx_here {g : Gm} {W : WX} {D : Ends} {m : Mm} {H : Hp} {ρ : EnP} {S : Sto} {σ : L2.St} (p : PostS g W D m H (.nx ρ S)) (hS : RelS g m S H) (hE : RelE g m H ρ σ) : D.nx σ H := p m H σ (Step.refl m H) hS hE
def dExpr (d : EnP → Sto → Res PV) : EnP → Sto → SR := fun ρ S => sE (d ρ S) ρ fun _ S1 => .nx ρ S1
def dRet (d : EnP → Sto → Res PV) : EnP → Sto → SR := fun ρ S => sE (d ρ S) ρ fun v S1 => .rt v S1
def dRetN : EnP → Sto → SR := fun _ S => .rt .non S
def dPass : EnP → Sto → SR := fun ρ S => .nx ρ S
def dBreak : EnP → Sto → SR := fun ρ S => .bk ρ S
def dCont : EnP → Sto → SR := fun ρ S => .ct ρ S
def dSeq (d1 d2 : EnP → Sto → SR) : EnP → Sto → SR := fun ρ S => match d1 ρ S with
  | .nx ρ' S' => d2 ρ' S'
  | r => r
def dIfS (dc : EnP → Sto → Res Bool) (d1 d2 : EnP → Sto → SR) : EnP → Sto → SR := fun ρ S => sE (dc ρ S) ρ fun b S1 => if b = true then d1 ρ S1 else d2 ρ S1
def dSet (i : Nat) (d : EnP → Sto → Res PV) : EnP → Sto → SR := fun ρ S => sE (d ρ S) ρ fun v S1 => .nx (ρ.set i (some v)) S1
def dPar (i j : Nat) (dl : EnP → Sto → Res (List PV)) : EnP → Sto → SR := fun ρ S => sE (dl ρ S) ρ fun vs S1 => match vs with
  | [v, w] => .nx ((ρ.set i (some v)).set j (some w)) S1
  | _ => .bad
def dPar3 (i j l : Nat) (dl : EnP → Sto → Res (List PV)) : EnP → Sto → SR := fun ρ S => sE (dl ρ S) ρ fun vs S1 => match vs with
  | [u, v, w] => .nx (((ρ.set i (some u)).set j (some v)).set l (some w)) S1
  | _ => .bad
/-- a target -/
abbrev DG := PV → EnP → Sto → Res EnP
def tgt (g : Gm) (W : WX) (d : DG) : TG := fun v σ H Q => ∃ x ρ S m, Rep g m H x v ∧ RelE g m H ρ σ ∧ RelS g m S H ∧ PostR g W σ m H (fun m' H' ρ' σ' => RelE g m' H' ρ' σ') Q (d x ρ S)
abbrev CG (X : Cx) (T : Tb) (W : WX) (tg : Expr) (d : DG) : Prop := PG X tg (tgt (gm X T) W d)
abbrev DGs := List PV → EnP → Sto → Res EnP
def tgts (g : Gm) (W : WX) (d : DGs) : TGs := fun vs σ H Q => ∃ xs ρ S m, RepL g m H xs vs ∧ RelE g m H ρ σ ∧ RelS g m S H ∧ PostR g W σ m H (fun m' H' ρ' σ' => RelE g m' H' ρ' σ') Q (d xs ρ S)
abbrev CGs (X : Cx) (T : Tb) (W : WX) (tg : List Expr) (d : DGs) : Prop := PGs X tg (tgts (gm X T) W d)
def gNm (i : Nat) : DG := fun x ρ S => .ok (ρ.set i (some x)) S
def gsNil : DGs := fun xs ρ S => match xs with
  | [] => .ok ρ S
  | _ => .bad
def gsCons (d : DG) (ds : DGs) : DGs := fun xs ρ S => match xs with
  | x :: r => (d x ρ S).bind fun ρ' S' => ds r ρ' S'
  | [] => .bad
def gTp (n : Nat) (ds : DGs) : DG := fun x ρ S => match x with
  | .tup xs => if xs.length = n then ds xs ρ S else .bad
  | _ => .bad
/-- o[i] = x -/
def setIx (x : PV) (ρ : EnP) (o i : PV) (S2 : Sto) : Res EnP := match o, i with
  | .ref n, .int k => (match S2[n]? with
    | some (SO.lst xs) => (match ixN xs.length k with
      | some j => .ok ρ (S2.set n (SO.lst (xs.set j x)))
      | none => .bad)
    | none => .bad)
  | _, _ => .bad
def gIx (do_ di : EnP → Sto → Res PV) : DG := fun x ρ S => (do_ ρ S).bind fun o S1 => (di ρ S1).bind fun i S2 => setIx x ρ o i S2
def dAsg (d : EnP → Sto → Res PV) (dg : DG) : EnP → Sto → SR := fun ρ S => sE (d ρ S) ρ fun v S1 => sE (dg v ρ S1) ρ fun ρ' S2 => .nx ρ' S2
def dAug (i : Nat) (f : PV → PV → Sto → Res PV) (d : EnP → Sto → Res PV) : EnP → Sto → SR := fun ρ S => match ρ[i]? with
  | some (some x) => sE (d ρ S) ρ fun y S1 => sE (f x y S1) ρ fun z S2 => .nx (ρ.set i (some z)) S2
  | _ => .bad
theorem pg_imp {X : Cx} {e : Expr} {t t' : TG} (h : PG X e t) (w : ∀ v σ H Q, t' v σ H Q → t v σ H Q) : PG X e t' := ⟨fun pins s σ H v u Q I r q => h.run pins s σ H v u Q I r (w v σ H Q q)⟩
theorem pgs_imp {X : Cx} {e : List Expr} {t t' : TGs} (h : PGs X e t) (w : ∀ v σ H Q, t' v σ H Q → t v σ H Q) : PGs X e t' := ⟨fun pins s σ H v u Q I r q => h.run pins s σ H v u Q I r (w v σ H Q q)⟩
section
variable {X : Cx} {T : Tb} {W : WX} {pos : Pos} {e : Expr} {d : EnP → Sto → Res PV} {st : Stmt} {rest : List Stmt} {d1 d2 : EnP → Sto → SR}
theorem css_nil : CSs X T W [] dPass := pss_imp pss_nil fun D σ H ⟨ρ, S, m, hE, hS, p⟩ => p.nx_here hS hE
theorem css_cons (h1 : CS X T W st d1) (h2 : CSs X T W rest d2) : CSs X T W (st :: rest) (dSeq d1 d2) :=
  pss_imp (pss_cons h1 h2) fun D σ H ⟨ρ, S, m, hE, hS, p⟩ => by
    refine ⟨ρ, S, m, hE, hS, ?_⟩
    unfold dSeq at p
    cases hd : d1 ρ S with
    | nx ρ' S' =>
      rw [hd] at p
      exact fun m' H' σ' s h3 h4 => ⟨ρ', S', m', h4, h3, PostS.step s p⟩
    | rt v S' => rw [hd] at p; exact p
    | bk ρ' S' => rw [hd] at p; exact p
    | ct ρ' S' => rw [hd] at p; exact p
    | exc c fs ρ' S' => rw [hd] at p; exact p
    | bad => rw [hd] at p; exact p
theorem css_one (h1 : CS X T W st d1) : CSs X T W [st] d1 := pss_one h1
theorem cs_pass : CS X T W (.Pass pos) dPass := ps_imp ps_pass fun D σ H ⟨ρ, S, m, hE, hS, p⟩ => p.nx_here hS hE
theorem cs_break : CS X T W (.Break pos) dBreak := ps_imp ps_break fun D σ H ⟨ρ, S, m, hE, hS, p⟩ => p m H σ (Step.refl m H) hS hE
theorem cs_cont : CS X T W (.Continue pos) dCont := ps_imp ps_continue fun D σ H ⟨ρ, S, m, hE, hS, p⟩ => p m H σ (Step.refl m H) hS hE
theorem cs_expr (h : CE X T W e d) (hs : swapsWith e none pos.line X.env = pure false := by rfl) : CS X T W (.Expr e pos) (dExpr d) :=
  ps_imp (ps_expr h hs) fun D σ H ⟨ρ, S, m, hE, hS, p⟩ => ts_bind (k := fun _ S1 => .nx ρ S1) hE hS p fun a S1 m1 H1 w s1 hE1 hS1 hr p1 => p1.nx_here hS1 hE1
theorem cs_ret (h : CE X T W e d) : CS X T W (.Return (some e) pos) (dRet d) :=
  ps_imp (ps_ret h) fun D σ H ⟨ρ, S, m, hE, hS, p⟩ => ts_bind (k := fun v S1 => .rt v S1) hE hS p fun a S1 m1 H1 w s1 hE1 hS1 hr p1 => p1 m1 H1 w (Step.refl _ _) hS1 hr
theorem cs_retN : CS X T W (.Return none pos) dRetN := ps_imp ps_retN fun D σ H ⟨ρ, S, m, hE, hS, p⟩ => p m H .non (Step.refl _ _) hS mk_non
theorem cs_if {c : Expr} {dc : EnP → Sto → Res Bool} {a b : List Stmt} (hc : CT X T W c dc) (ha : CSs X T W a d1) (hb : CSs X T W b d2) : CS X T W (.If c a b pos) (dIfS dc d1 d2) :=
  ps_imp (ps_if hc ha hb) fun D σ H ⟨ρ, S, m, hE, hS, p⟩ => ts_bind (k := fun b S1 => if b = true then d1 ρ S1 else d2 ρ S1) hE hS p fun b S1 m1 H1 w s1 hE1 hS1 hr p1 => by
    cases hr
    cases b with
    | true => rw [if_pos rfl] at p1 ⊢; exact ⟨ρ, S1, m1, hE1, hS1, p1⟩
    | false => rw [if_neg Bool.false_ne_true] at p1 ⊢; exact ⟨ρ, S1, m1, hE1, hS1, p1⟩
theorem cs_set {i : Nat} {x : Str} {pos' : Pos} (hN : X.N.Nodup) (hi : X.N[i]? = some x) (hx : Loc X.env.scope x) (he : CE X T W e d) (hs : swapsWith e (some (.Name x pos')) pos.line X.env = pure false := by rfl)
    (hf : X.fn x = true ∨ X.env.scope.names.lookup x = some .local := by first | exact .inl rfl | exact .inr rfl | assumption) : CS X T W (.Assign [.Name x pos'] e pos) (dSet i d) :=
  ps_imp (ps_set hN hi hx he hs hf) fun D σ H ⟨ρ, S, m, hE, hS, p⟩ => ts_bind (k := fun v S1 => .nx (ρ.set i (some v)) S1) hE hS p fun a S1 m1 H1 w s1 hE1 hS1 hr p1 => p1.nx_here hS1 (hE1.set i hr)
theorem cs_par {i j : Nat} {x y : Str} {a b : Expr} {dl : EnP → Sto → Res (List PV)} {px py pt : Pos} {kt k2 pt2} (hc : X.calm = true) (hN : X.N.Nodup) (hi : X.N[i]? = some x) (hj : X.N[j]? = some y) (hij : i ≠ j)
    (hx : X.env.scope.names.lookup x = some .local) (hy : X.env.scope.names.lookup y = some .local) (ha : CA X T W [a, b] dl)
    (hw : swappedStores [.Tuple [.Name x px, .Name y py] kt pt] (.Tuple [a, b] k2 pt2) X.env = pure (some [x, y]))
    (hs : swapsWithSole [.Tuple [.Name x px, .Name y py] kt pt] (.Tuple [a, b] k2 pt2) pos.line X.env = pure false := by rfl) :
    CS X T W (.Assign [.Tuple [.Name x px, .Name y py] kt pt] (.Tuple [a, b] k2 pt2) pos) (dPar i j dl) :=
  ps_imp (ps_par hc hN hi hj hij hx hy ha hw hs) fun D σ H ⟨ρ, S, m, hE, hS, p⟩ => ts_bind (k := fun vs S1 => match vs with | [v, w] => .nx ((ρ.set i (some v)).set j (some w)) S1 | _ => .bad) hE hS p fun vs S1 m1 H1 ws s1 hE1 hS1 hr p1 => by
    split at p1
    · obtain ⟨v, u, rfl, r1, r2⟩ := two_rep hr
      exact ⟨v, u, rfl, p1.nx_here hS1 ((hE1.set i r1).set j r2)⟩
    · exact p1.elim
theorem three_rep {g : Gm} {m : Mm} {H : Hp} {x y z : PV} {vs : List V} (r : RepL g m H [x, y, z] vs) : ∃ v u w, vs = [v, u, w] ∧ Rep g m H x v ∧ Rep g m H y u ∧ Rep g m H z w := by
  unfold RepL at r
  obtain ⟨v, ws, rfl, h, r⟩ := r
  obtain ⟨u, w, rfl, h2, h3⟩ := two_rep r
  exact ⟨v, u, w, rfl, h, h2, h3⟩
theorem cs_par3 {i j l : Nat} {x y z : Str} {a b c : Expr} {dl : EnP → Sto → Res (List PV)} {px py pz pt : Pos} {kt k2 pt2} (hc : X.calm = true) (hN : X.N.Nodup) (hi : X.N[i]? = some x) (hj : X.N[j]? = some y) (hl : X.N[l]? = some z) (hij : i ≠ j) (hil : i ≠ l) (hjl : j ≠ l)
    (hx : X.env.scope.names.lookup x = some .local) (hy : X.env.scope.names.lookup y = some .local) (hz : X.env.scope.names.lookup z = some .local) (ha : CA X T W [a, b, c] dl)
    (hw : swappedStores [.Tuple [.Name x px, .Name y py, .Name z pz] kt pt] (.Tuple [a, b, c] k2 pt2) X.env = pure (some [x, y, z]))
    (hs : swapsWithSole [.Tuple [.Name x px, .Name y py, .Name z pz] kt pt] (.Tuple [a, b, c] k2 pt2) pos.line X.env = pure false := by rfl) :
    CS X T W (.Assign [.Tuple [.Name x px, .Name y py, .Name z pz] kt pt] (.Tuple [a, b, c] k2 pt2) pos) (dPar3 i j l dl) :=
  ps_imp (ps_par3 hc hN hi hj hl hij hil hjl hx hy hz ha hw hs) fun D σ H ⟨ρ, S, m, hE, hS, p⟩ => ts_bind (k := fun vs S1 => match vs with | [u, v, w] => .nx (((ρ.set i (some u)).set j (some v)).set l (some w)) S1 | _ => .bad) hE hS p fun vs S1 m1 H1 ws s1 hE1 hS1 hr p1 => by
    split at p1
    · obtain ⟨v, u, w, rfl, r1, r2, r3⟩ := three_rep hr
      exact ⟨v, u, w, rfl, p1.nx_here hS1 (((hE1.set i r1).set j r2).set l r3)⟩
    · exact p1.elim
/-! targets -/
theorem cg_name {i : Nat} {x : Str} (hN : X.N.Nodup) (hi : X.N[i]? = some x) (hx : Loc X.env.scope x) (hf : X.fn x = true ∨ X.env.scope.names.lookup x = some .local := by first | exact .inl rfl | exact .inr rfl | assumption) : CG X T W (.Name x pos) (gNm i) :=
  pg_imp (pg_name hN hi hx hf) fun v σ H Q ⟨x, ρ, S, m, hr, hE, hS, p⟩ => PostR.here (a := ρ.set i (some x)) p hS (hE.set i hr)
theorem cgs_nil : CGs X T W [] gsNil := pgs_imp pgs_nil fun vs σ H Q ⟨xs, ρ, S, m, hr, hE, hS, p⟩ => by
  unfold gsNil at p
  split at p
  · unfold RepL at hr
    exact ⟨hr, PostR.here (a := ρ) p hS hE⟩
  · exact p.elim
/-- an exception that a target raises is told at the slots ahead of it -/
def Flat (W : WX) : Prop := ∀ c d σ σ' H, W c d σ H → W c d σ' H
theorem cgs_cons {e : Expr} {es : List Expr} {dg : DG} {ds : DGs} (fw : Flat W) (h1 : CG X T W e dg) (h2 : CGs X T W es ds) (hs : (assignEach (e :: es) X.env).map (·.2) = assign e X.env :: (assignEach es X.env).map (·.2) := by rfl) : CGs X T W (e :: es) (gsCons dg ds) :=
  pgs_imp (pgs_cons h1 h2 hs) fun vs σ H Q ⟨xs, ρ, S, m, hr, hE, hS, p⟩ => by
    unfold gsCons at p
    split at p
    · rename_i x r
      unfold RepL at hr
      obtain ⟨v, ws, rfl, r1, r2⟩ := hr
      refine ⟨v, ws, rfl, x, ρ, S, m, r1, hE, hS, ?_⟩
      cases hd : dg x ρ S with
      | ok ρ' S' =>
        rw [hd] at p
        refine fun m' H' σ' s h3 h4 => ⟨r, ρ', S', m', r2.step s, h4, h3, ?_⟩
        have p2 : PostR (gm X T) W σ m H (fun m' H' ρ' σ' => RelE (gm X T) m' H' ρ' σ') Q (ds r ρ' S') := p
        have p3 := PostR.step s p2
        cases hq : ds r ρ' S' with
        | ok a S2 => rw [hq] at p3; exact p3
        | exc c fs S2 => rw [hq] at p3; exact fun m2 H2 cls dd s2 h5 h6 => fw _ _ σ σ' _ (p3 m2 H2 cls dd s2 h5 h6)
        | bad => rw [hq] at p3; exact p3
      | exc c fs S' => rw [hd] at p; exact p
      | bad => rw [hd] at p; exact p.elim
    · exact p.elim
theorem cg_tup {es : List Expr} {k : Nat} {ds : DGs} {n : Nat} (hc : X.calm = true) (h : CGs X T W es ds) (hn : (assignEach es X.env).length = n := by rfl) (hst : (assignEach es X.env).findIdx? (·.1) = none := by rfl) : CG X T W (.Tuple es k pos) (gTp n ds) :=
  pg_imp (pg_tup hc h hn hst) fun v σ H Q ⟨x, ρ, S, m, hr, hE, hS, p⟩ => by
    cases x with
    | tup xs =>
      simp only [gTp] at p
      split at p
      · rename_i hl
        obtain ⟨a, vs, rfl, h1, h2⟩ := tup_rep hr
        exact ⟨a, vs, rfl, h1, by rw [← h2.length]; exact hl, xs, ρ, S, m, h2, hE, hS, p⟩
      · exact p.elim
    | _ => exact p.elim
theorem cg_ix {o i : Expr} {do_ di : EnP → Sto → Res PV} (hb : Bare (gm X T)) (ho : CE X T W o do_) (hi : CE X T W i di)
    (ha : ∀ v, assign (.Subscript o i pos) X.env v = (do
      let ov ← holding [v] (eval o X.env)
      let iv ← holding [v, ov] (eval i X.env)
      standAt pos
      holding [v, ov, iv] (setItem ov iv v)
      release [v, ov, iv] []) := by intro _; rfl) : CG X T W (.Subscript o i pos) (gIx do_ di) :=
  pg_imp (pg_sub ho hi set_list ha) fun v σ H Q ⟨x, ρ, S, m, hr, hE, hS, p⟩ =>
    tr_bind (R' := fun m' H' ρ' σ' => RelE (gm X T) m' H' ρ' σ') (f := fun (o : PV) (_ : EnP) (S1 : Sto) => (di ρ S1).bind fun i S2 => setIx x ρ o i S2) hE hS p fun o S1 m1 H1 w s1 hE1 hS1 hr1 p1 =>
    tr_bind (R' := fun m' H' ρ' σ' => RelE (gm X T) m' H' ρ' σ') (f := fun (i : PV) (_ : EnP) (S2 : Sto) => setIx x ρ o i S2) hE1 hS1 p1 fun i S2 m2 H2 w2 s2 hE2 hS2 hr2 p2 => by
      cases o with
      | ref n =>
        cases i with
        | int k =>
          cases rep_int hr2
          have p2 : PostR (gm X T) W σ m2 H2 (fun m' H' ρ' σ' => RelE (gm X T) m' H' ρ' σ') Q (match S2[n]? with
            | some (SO.lst xs) => (match ixN xs.length k with
              | some j => Res.ok ρ (S2.set n (SO.lst (xs.set j x)))
              | none => .bad)
            | none => .bad) := p2
          split at p2
          · rename_i xs e
            split at p2
            · rename_i j ej
              obtain ⟨a, vs, g1, rfl, g3, g4⟩ := ref_rep hS2 (hr1.step s2) e
              have hn2 : n < S2.length := (List.getElem?_eq_some_iff.mp e).1
              refine ⟨a, vs, k, j, rfl, rfl, g3, by rw [← g4.length]; exact ej, ?_⟩
              have st := step_write (us := vs.set j v) (List.mem_of_getElem? g1) g3
              exact p2 m2 _ _ st (hS2.write hb g1 hn2 g3 (g4.set ((hr.step s1).step s2) j)) (hE2.step st)
            · exact p2.elim
          · exact p2.elim
        | _ => exact p2.elim
      | _ => exact p2.elim
theorem cs_asg {tg : Expr} {dg : DG} (he : CE X T W e d) (hg : CG X T W tg dg) (hs : swapsWithSole [tg] e pos.line X.env = pure false := by rfl) (hw : swappedStores [tg] e X.env = pure none := by rfl)
    (h1 : (assignEach [tg] X.env).map (·.2) = [assign tg X.env] := by rfl) : CS X T W (.Assign [tg] e pos) (dAsg d dg) :=
  ps_imp (ps_asg he hg hs hw h1) fun D σ H ⟨ρ, S, m, hE, hS, p⟩ => ts_bind (k := fun v S1 => sE (dg v ρ S1) ρ fun ρ' S2 => .nx ρ' S2) hE hS p fun a S1 m1 H1 w s1 hE1 hS1 hr p1 => by
    refine ⟨a, ρ, S1, m1, hr, hE1, hS1, ?_⟩
    cases hd : dg a ρ S1 with
    | ok ρ' S' => rw [hd] at p1; exact fun m' H' σ' s h3 h4 => p1 m' H' σ' s h3 h4
    | exc c fs S' => rw [hd] at p1; exact fun m' H' cls dd s h3 h4 => p1 m' H' σ cls dd s h3 (hE1.step s) h4
    | bad => rw [hd] at p1; exact p1.elim
theorem cs_aug {i : Nat} {x : Str} {op : Operator} {f : PV → PV → Sto → Res PV} {r : R2} {pos' : Pos} (hN : X.N.Nodup) (hi : X.N[i]? = some x) (hx : Loc X.env.scope x) (he : CE X T W e d) (ho : OpR X (inplaceOp op) r) (hs : Snd (gm X T) r f)
    (hf : X.fn x = true ∨ X.env.scope.names.lookup x = some .local := by first | exact .inl rfl | exact .inr rfl | assumption) : CS X T W (.AugAssign (.Name x pos') op e pos) (dAug i f d) :=
  ps_imp (ps_aug (ti := r) hN hi hx he ho hf) fun D σ H ⟨ρ, S, m, hE, hS, p⟩ => by
    unfold dAug at p
    split at p
    · rename_i v ev
      obtain ⟨w, e1, e2⟩ := hE.at_ i v ev
      refine ⟨w, e1, ts_bind (k := fun y S1 => sE (f v y S1) ρ fun z S2 => .nx (ρ.set i (some z)) S2) hE hS p fun y S1 m1 H1 u s1 hE1 hS1 hr p1 => ?_⟩
      refine hs W σ m1 S1 H1 v y w u _ hS1 (e2.step s1) hr ?_
      cases hd : f v y S1 with
      | ok z S2 => rw [hd] at p1; exact fun m' H' w' s h3 h4 => p1 m' H' _ s h3 ((hE1.step s).set i h4)
      | exc c fs S2 => rw [hd] at p1; exact fun m' H' cls dd s h3 h4 => p1 m' H' σ cls dd s h3 (hE1.step s) h4
      | bad => rw [hd] at p1; exact p1.elim
    · exact p.elim
end

/-! ### while -/
def whileP (dc : EnP → Sto → Res Bool) (db : EnP → Sto → SR) : Nat → EnP → Sto → SR
  | 0, _, _ => .bad
  | n + 1, ρ, S => sE (dc ρ S) ρ fun b S1 => if b = true then (match db ρ S1 with
      | .nx ρ' S' => whileP dc db n ρ' S'
      | .ct ρ' S' => whileP dc db n ρ' S'
      | .bk ρ' S' => .nx ρ' S'
      | r => r) else .nx ρ S1
theorem cs_while {X : Cx} {T : Tb} {W : WX} {pos : Pos} {c : Expr} {body : List Stmt} {dc : EnP → Sto → Res Bool} {db : EnP → Sto → SR} (n : Nat) (hp : PassesOwn (model X.prog X.w) X.A X.env X.xe) (hc : CT X T W c dc) (hb : CSs X T W body db) :
    CS X T W (.While c body [] pos) (whileP dc db n) :=
  ps_imp (ps_while hp hc hb) fun D σ H ⟨ρ, S, m, hE, hS, p⟩ => by
    refine ⟨fun n σ H => ∃ ρ S m, RelE (gm X T) m H ρ σ ∧ RelS (gm X T) m S H ∧ PostS (gm X T) W D m H (whileP dc db n ρ S), ⟨n, ρ, S, m, hE, hS, p⟩, ?_⟩
    rintro n σ H ⟨ρ, S, m, hE, hS, p⟩
    cases n with
    | zero => exact p.elim
    | succ n =>
      unfold whileP at p
      refine ts_bind (k := fun b S1 => if b = true then (match db ρ S1 with
        | .nx ρ' S' => whileP dc db n ρ' S'
        | .ct ρ' S' => whileP dc db n ρ' S'
        | .bk ρ' S' => .nx ρ' S'
        | r => r) else .nx ρ S1) hE hS p fun b S1 m1 H1 w s1 hE1 hS1 hr p1 => ?_
      cases hr
      cases b with
      | false =>
        rw [if_neg Bool.false_ne_true] at p1 ⊢
        exact p1.nx_here hS1 hE1
      | true =>
        rw [if_pos rfl] at p1 ⊢
        refine ⟨fun σ H => ∃ ρ S m, RelE (gm X T) m H ρ σ ∧ RelS (gm X T) m S H ∧ PostS (gm X T) W D m H (whileP dc db n ρ S), fun σ' H' h => ⟨n, Nat.lt_succ_self n, h⟩, ρ, S1, m1, hE1, hS1, ?_⟩
        cases hd : db ρ S1 with
        | nx ρ' S' => rw [hd] at p1; exact fun m' H' σ' s h3 h4 => ⟨ρ', S', m', h4, h3, PostS.step s p1⟩
        | ct ρ' S' => rw [hd] at p1; exact fun m' H' σ' s h3 h4 => ⟨ρ', S', m', h4, h3, PostS.step s p1⟩
        | bk ρ' S' => rw [hd] at p1; exact p1
        | rt v S' => rw [hd] at p1; exact p1
        | exc c fs ρ' S' => rw [hd] at p1; exact p1
        | bad => rw [hd] at p1; exact p1

/-! ### for -/
/-- an iterator that yields these items, whatever happens to the store -/
structure ItOk (g : Gm) (J : It) (items : List PV) (m₀ : Mm) (H₀ : Hp) : Prop where
  go : ∀ m H S i x, Step m₀ H₀ m H → RelS g m S H → items[i]? = some x → J.go i H ∧ ∀ v H', J.yld i H v H' → Step m H m H' ∧ RelS g m S H' ∧ Rep g m H' x v
  stop : ∀ m H S i, Step m₀ H₀ m H → RelS g m S H → items.length = i → J.stop i H
theorem ItOk.step {g : Gm} {J : It} {items : List PV} {m m1 : Mm} {H H1 : Hp} (s : Step m H m1 H1) (k : ItOk g J items m H) : ItOk g J items m1 H1 :=
  ⟨fun m' H' S i x s' => k.go m' H' S i x (s.trans s'), fun m' H' S i s' => k.stop m' H' S i (s.trans s')⟩
abbrev CI (X : Cx) (T : Tb) (W : WX) (tg iter : Expr) (d : EnP → Sto → Res (List PV)) : Prop := PI X tg iter (tr (gm X T) W (fun m' H' items J => ItOk (gm X T) J items m' H') d)
theorem pi_imp {X : Cx} {tg e : Expr} {t t' : TI} (h : PI X tg e t) (w : ∀ σ H R, t' σ H R → t σ H R) : PI X tg e t' := ⟨fun pins s σ H R I q => h.run pins s σ H R I (w σ H R q)⟩
def forP (dg : DG) (db : EnP → Sto → SR) : List PV → EnP → Sto → SR
  | [], ρ, S => .nx ρ S
  | x :: xs, ρ, S => sE (dg x ρ S) ρ fun ρ1 S1 => (match db ρ1 S1 with
      | .nx ρ' S' => forP dg db xs ρ' S'
      | .ct ρ' S' => forP dg db xs ρ' S'
      | .bk ρ' S' => .nx ρ' S'
      | r => r)
def dFor (di : EnP → Sto → Res (List PV)) (dg : DG) (db : EnP → Sto → SR) : EnP → Sto → SR := fun ρ S => sE (di ρ S) ρ fun items S1 => forP dg db items ρ S1
theorem cs_for {X : Cx} {T : Tb} {W : WX} {pos : Pos} {tg iter : Expr} {body : List Stmt} {di : EnP → Sto → Res (List PV)} {dg : DG} {db : EnP → Sto → SR} (hp : PassesOwn (model X.prog X.w) X.A X.env X.xe) (hc : X.calm = true)
    (hi : CI X T W tg iter di) (hg : CG X T W tg dg) (hb : CSs X T W body db) (hs : ∀ x, foldedSetIterable iter X.env x = pure x := by intro _; rfl) : CS X T W (.For tg iter body [] pos) (dFor di dg db) :=
  ps_imp (ps_for hp hc hi hg hb hs) fun D σ H ⟨ρ, S, m, hE, hS, p⟩ => ts_bind (k := fun items S1 => forP dg db items ρ S1) hE hS p fun items S1 m1 H1 J s1 hE1 hS1 hJ p1 => by
    refine ⟨fun i n σ H => ∃ ρ S m, Step m1 H1 m H ∧ RelE (gm X T) m H ρ σ ∧ RelS (gm X T) m S H ∧ (n = items.length - i ∧ i ≤ items.length) ∧ PostS (gm X T) W D m H (forP dg db (items.drop i) ρ S), ⟨_, ρ, S1, m1, Step.refl _ _, hE1, hS1, ⟨rfl, Nat.zero_le _⟩, p1⟩, ?_⟩
    rintro i n σ2 H2 ⟨ρ2, S2, m2, s2, hE2, hS2, ⟨rfl, hle⟩, p2⟩
    by_cases hlt : i < items.length
    · right
      have ei : items[i]? = some items[i] := List.getElem?_eq_getElem hlt
      obtain ⟨hgo, hy⟩ := hJ.go m2 H2 S2 i items[i] s2 hS2 ei
      refine ⟨hgo, fun σ H => ∃ ρ S m, Step m1 H1 m H ∧ RelE (gm X T) m H ρ σ ∧ RelS (gm X T) m S H ∧ PostS (gm X T) W D m H (forP dg db (items.drop (i + 1)) ρ S), fun σ' H' ⟨ρ', S', m', a, b, c, d⟩ => ⟨items.length - (i + 1), by omega, ρ', S', m', a, b, c, ⟨rfl, hlt⟩, d⟩, fun v H3 y => ?_⟩
      obtain ⟨s3, hS3, hr3⟩ := hy v H3 y
      rw [List.drop_eq_getElem_cons hlt] at p2
      unfold forP at p2
      refine ⟨items[i], ρ2, S2, m2, hr3, hE2.step s3, hS3, ?_⟩
      have p3 := PostS.step s3 p2
      cases hd : dg items[i] ρ2 S2 with
      | ok ρ' S' =>
        rw [hd] at p3
        refine fun m4 H4 σ4 s4 hS4 hE4 => ⟨ρ', S', m4, hE4, hS4, ?_⟩
        have p4 := PostS.step s4 (show PostS (gm X T) W D m2 H3 (match db ρ' S' with
          | .nx ρ' S' => forP dg db (items.drop (i + 1)) ρ' S'
          | .ct ρ' S' => forP dg db (items.drop (i + 1)) ρ' S'
          | .bk ρ' S' => .nx ρ' S'
          | r => r) from p3)
        have s24 : Step m1 H1 m4 H4 := (s2.trans s3).trans s4
        cases hq : db ρ' S' with
        | nx ρ5 S5 => rw [hq] at p4; exact fun m5 H5 σ5 s5 h5 h6 => ⟨ρ5, S5, m5, s24.trans s5, h6, h5, PostS.step s5 p4⟩
        | ct ρ5 S5 => rw [hq] at p4; exact fun m5 H5 σ5 s5 h5 h6 => ⟨ρ5, S5, m5, s24.trans s5, h6, h5, PostS.step s5 p4⟩
        | bk ρ5 S5 => rw [hq] at p4; exact p4
        | rt v5 S5 => rw [hq] at p4; exact p4
        | exc c fs ρ5 S5 => rw [hq] at p4; exact p4
        | bad => rw [hq] at p4; exact p4
      | exc c fs S' => rw [hd] at p3; exact fun m4 H4 cls dd s4 h4 h5 => p3 m4 H4 σ2 cls dd s4 h4 ((hE2.step s3).step s4) h5
      | bad => rw [hd] at p3; exact p3.elim
    · left
      refine ⟨hJ.stop m2 H2 S2 i s2 hS2 (by omega), ?_⟩
      rw [List.drop_eq_nil_of_le (by omega)] at p2
      exact PostS.nx_here p2 hS2 hE2
end Mi
end
section
set_option Elab.async false
set_option linter.all false
set_option maxRecDepth 100000
set_option maxHeartbeats 2000000
namespace Mi
open PySem PySem.Spec PyProof.Rows L2

/-! ### what is walked -/
def srcP : PV → Option (List PV)
  | .tup xs => some xs
  | .nl xs => some xs
  | .fl xs => some xs
  | _ => none
def srcT : PV → Bool
  | .tup _ => true
  | _ => false
def SqX (K : PySem.W.Frag) (b : Bool) (H : Hp) (a : Addr) (vs : List V) : Prop := if b = true then SqT K H a vs else SqL K H a vs
theorem src_rep {g : Gm} {m : Mm} {H : Hp} {x : PV} {v : V} {xs : List PV} (r : Rep g m H x v) (e : srcP x = some xs) : ∃ a vs, v = .ref a ∧ SqX g.K (srcT x) H a vs ∧ RepL g m H xs vs := by
  cases x with
  | tup ys =>
    cases e
    obtain ⟨a, vs, e, h1, h2⟩ := tup_rep r
    exact ⟨a, vs, e, h1, h2⟩
  | nl ys =>
    cases e
    unfold Rep at r
    obtain ⟨a, vs, e, _, h1, h2⟩ := r
    exact ⟨a, vs, e, .inl (.inl h1), h2⟩
  | fl ys =>
    cases e
    unfold Rep at r
    obtain ⟨a, vs, e, h1, h2⟩ := r
    refine ⟨a, vs, e, ?_, h2⟩
    rcases h1 with ⟨o, h1⟩ | h1
    · exact .inl (.inr ⟨o, h1⟩)
    · rcases h1 with h1 | h1
      · rcases h1 with h1 | ⟨o, h1⟩ <;> cases h1
      · exact .inr h1
  | _ => cases e
def It1 (K : PySem.W.Frag) (b : Bool) (a : Addr) : It := if b = true then Itt K a else Itl K a
theorem itOk_src {g : Gm} {m : Mm} {H : Hp} {x : PV} {a : Addr} {xs : List PV} (r : Rep g m H x (.ref a)) (e : srcP x = some xs) : ItOk g (It1 g.K (srcT x) a) xs m H := by
  refine ⟨fun m1 H1 S i y s hS ey => ?_, fun m1 H1 S i s hS hl => ?_⟩
  · obtain ⟨b, vs, eb, h1, h2⟩ := src_rep (r.step s) e
    cases eb
    obtain ⟨w, ew, rw_⟩ := h2.get ey
    unfold It1
    unfold SqX at h1
    cases hb : srcT x with
    | true =>
      rw [hb, if_pos rfl] at h1
      rw [if_pos rfl]
      refine ⟨⟨vs, w, h1, ew⟩, fun v H' ⟨eH, hv⟩ => ?_⟩
      subst eH
      have q := hv vs h1
      rw [ew] at q
      cases q
      exact ⟨Step.refl _ _, hS, rw_⟩
    | false =>
      rw [hb, if_neg Bool.false_ne_true] at h1
      rw [if_neg Bool.false_ne_true]
      refine ⟨⟨vs, w, h1, ew⟩, fun v H' ⟨eH, hv⟩ => ?_⟩
      subst eH
      have q := hv vs h1
      rw [ew] at q
      cases q
      exact ⟨Step.refl _ _, hS, rw_⟩
  · obtain ⟨b, vs, eb, h1, h2⟩ := src_rep (r.step s) e
    cases eb
    unfold It1
    unfold SqX at h1
    cases hb : srcT x with
    | true =>
      rw [hb, if_pos rfl] at h1
      rw [if_pos rfl]
      exact ⟨vs, h1, by rw [← h2.length]; exact Nat.le_of_eq hl⟩
    | false =>
      rw [hb, if_neg Bool.false_ne_true] at h1
      rw [if_neg Bool.false_ne_true]
      exact ⟨vs, h1, by rw [← h2.length]; exact Nat.le_of_eq hl⟩
/-- the signs of a text -/
def signs (s : Str) : List PV := s.cps.toList.map fun c => .str ⟨#[c]⟩
theorem itOk_str {g : Gm} {m : Mm} {H : Hp} (s : Str) : ItOk g (Its s) (signs s) m H := by
  refine ⟨fun m1 H1 S i y st hS ey => ?_, fun m1 H1 S i st hS hl => ?_⟩
  · unfold signs at ey
    rw [List.getElem?_map] at ey
    cases e : s.cps.toList[i]? with
    | none => rw [e] at ey; cases ey
    | some c =>
      rw [e] at ey
      cases ey
      have e2 : s.cps[i]? = some c := by rw [← Array.getElem?_toList]; exact e
      have hl : i < s.cps.size := by
        have := (Array.getElem?_eq_some_iff.mp e2).1
        exact this
      refine ⟨hl, fun v H' ⟨eH, c', hc, ev⟩ => ?_⟩
      subst eH
      rw [e2] at hc
      cases hc
      rw [ev]
      exact ⟨Step.refl _ _, hS, mk_str _⟩
  · unfold signs at hl
    rw [List.length_map, Array.length_toList] at hl
    exact Nat.le_of_eq hl
def walkP (x : PV) : Option (List PV) := match x with
  | .str s => some (signs s)
  | x => srcP x
def iSeq (d : EnP → Sto → Res PV) : EnP → Sto → Res (List PV) := fun ρ S => (d ρ S).bind fun x S1 => match walkP x with
  | some xs => .ok xs S1
  | none => .bad
theorem pi_or {X : Cx} {tg e : Expr} {t1 t2 : TI} (h1 : PI X tg e t1) (h2 : PI X tg e t2) : PI X tg e (fun σ H R => t1 σ H R ∨ t2 σ H R) := ⟨fun pins s σ H R I h => by
  rcases h with h | h
  · exact h1.run pins s σ H R I h
  · exact h2.run pins s σ H R I h⟩
/-- tr_bind, the first reading's own answer known -/
theorem tr_bindE {α β α' β' : Type} {g : Gm} {W : WX} {R : Mm → Hp → α → β → Prop} {R' : Mm → Hp → α' → β' → Prop} {d : EnP → Sto → Res α} {f : α → EnP → Sto → Res α'} {σ : L2.St} {H : Hp} {Q : β' → Hp → Prop} {ρ : EnP} {S : Sto} {m : Mm}
    (hE : RelE g m H ρ σ) (hS : RelS g m S H) (p : PostR g W σ m H R' Q ((d ρ S).bind fun a S1 => f a ρ S1)) {Q1 : β → Hp → Prop}
    (h : ∀ a S1 m1 H1 w, d ρ S = .ok a S1 → Step m H m1 H1 → RelE g m1 H1 ρ σ → RelS g m1 S1 H1 → R m1 H1 a w → PostR g W σ m1 H1 R' Q (f a ρ S1) → Q1 w H1) : tr g W R d σ H Q1 := by
  refine ⟨ρ, S, m, hE, hS, ?_⟩
  cases hd : d ρ S with
  | ok a S1 =>
    rw [hd] at p
    exact fun m' H' w s h1 h2 => h a S1 m' H' w hd s (hE.step s) h1 h2 (PostR.step s p)
  | exc c fs S1 =>
    rw [hd] at p
    exact fun m' H' cls dd s h1 h2 => p m' H' cls dd s h1 h2
  | bad =>
    rw [hd] at p
    exact p.elim
section
variable {X : Cx} {T : Tb} {W : WX} {pos tpos p : Pos} {e e2 tg : Expr} {d d2 : EnP → Sto → Res PV} {dl : EnP → Sto → Res (List PV)}
theorem ci_seq (h : CE X T W e d) : CI X T W tg e (iSeq d) :=
  pi_imp (pi_or (pi_or (pi_tup h) (pi_list h)) (pi_str h)) fun σ H R ⟨ρ, S, m, hE, hS, p⟩ => by
    cases hd : d ρ S with
    | bad =>
      unfold iSeq at p
      rw [hd] at p
      exact p.elim
    | exc c fs S1 =>
      refine .inl (.inl ?_)
      exact tr_bindE (f := fun (x : PV) (_ : EnP) (S1 : Sto) => match walkP x with | some xs => Res.ok xs S1 | none => .bad) hE hS p fun a S1 m1 H1 w ed => by rw [hd] at ed; cases ed
    | ok x0 S0 =>
      have go : ∀ (b : Bool), srcT x0 = b → (∀ s, x0 ≠ .str s) → tv (gm X T) W d σ H fun x H1 => ∃ a, x = .ref a ∧ (∃ xs, SqX X.K b H1 a xs) ∧ R (It1 X.K b a) H1 := fun b hb hn =>
        tr_bindE (f := fun (x : PV) (_ : EnP) (S1 : Sto) => match walkP x with | some xs => Res.ok xs S1 | none => .bad) hE hS p fun a S1 m1 H1 w ed s1 hE1 hS1 hr1 p1 => by
          rw [hd] at ed
          cases ed
          have ew : walkP x0 = srcP x0 := by
            cases x0 with
            | str s => exact absurd rfl (hn s)
            | _ => rfl
          cases es : srcP x0 with
          | none => rw [ew, es] at p1; exact p1.elim
          | some xs =>
            rw [ew, es] at p1
            obtain ⟨a, vs, rfl, h1, h2⟩ := src_rep hr1 es
            refine ⟨a, rfl, ⟨vs, by rw [← hb]; exact h1⟩, ?_⟩
            have q := itOk_src hr1 es
            rw [hb] at q
            exact PostR.here (a := xs) p1 hS1 q
      cases x0 with
      | tup xs =>
        refine .inl (.inl ?_)
        have := go true rfl (fun s z => by cases z)
        exact this
      | str s =>
        refine .inr ?_
        refine tr_bindE (f := fun (x : PV) (_ : EnP) (S1 : Sto) => match walkP x with | some xs => Res.ok xs S1 | none => .bad) hE hS p fun a S1 m1 H1 w ed s1 hE1 hS1 hr1 p1 => ?_
        rw [hd] at ed
        cases ed
        exact ⟨s, rep_str hr1, PostR.here (a := signs s) p1 hS1 (itOk_str s)⟩
      | nl xs => exact .inl (.inr (go false rfl (fun s z => by cases z)))
      | fl xs => exact .inl (.inr (go false rfl (fun s z => by cases z)))
      | _ =>
        unfold iSeq at p
        rw [hd] at p
        exact p.elim
/-! range -/
def upTo (lo : Int) (n : Nat) : List PV := (List.range n).map fun i => .int (lo + (i : Nat))
theorem itOk_rng {g : Gm} {m : Mm} {H : Hp} (lo : Int) (n : Nat) : ItOk g (Itr lo n) (upTo lo n) m H := by
  refine ⟨fun m1 H1 S i y st hS ey => ?_, fun m1 H1 S i st hS hl => ?_⟩
  · unfold upTo at ey
    rw [List.getElem?_map] at ey
    by_cases hi : i < n
    · rw [List.getElem?_range hi] at ey
      cases ey
      refine ⟨hi, fun v H' ⟨eH, ev⟩ => ?_⟩
      subst eH
      rw [ev]
      exact ⟨Step.refl _ _, hS, mk_int _⟩
    · rw [List.getElem?_eq_none (by simpa using hi)] at ey
      cases ey
  · unfold upTo at hl
    rw [List.length_map, List.length_range] at hl
    exact Nat.le_of_eq hl
def iRange (dl : EnP → Sto → Res (List PV)) : EnP → Sto → Res (List PV) := fun ρ S => (dl ρ S).bind fun xs S1 => match xs with
  | [.int j] => if -1000000 ≤ j ∧ j ≤ 1000000 then .ok (upTo 0 j.toNat) S1 else .bad
  | [.int i, .int j] => if -1000000 ≤ i ∧ i ≤ 1000000 ∧ -1000000 ≤ j ∧ j ≤ 1000000 then .ok (upTo i (j - i).toNat) S1 else .bad
  | _ => .bad
theorem ci_range1 (hg : Gl X "range") (hm : X.mg "range" = none) (ha : CA X T W [e] dl) (hs : starEach [e] X.env = [(false, eval e X.env)] := by rfl) (hl : ∀ ρ S xs S1, dl ρ S = .ok xs S1 → xs.length = 1) : CI X T W tg (.Call (.Name "range" p) [e] [] pos) (iRange dl) :=
  pi_imp (pi_range1 hg hm ha hs) fun σ H R ⟨ρ, S, m, hE, hS, p⟩ =>
    tr_bindE (f := fun (xs : List PV) (_ : EnP) (S1 : Sto) => match xs with
      | [.int j] => if -1000000 ≤ j ∧ j ≤ 1000000 then Res.ok (upTo 0 j.toNat) S1 else .bad
      | [.int i, .int j] => if -1000000 ≤ i ∧ i ≤ 1000000 ∧ -1000000 ≤ j ∧ j ≤ 1000000 then .ok (upTo i (j - i).toNat) S1 else .bad
      | _ => .bad) hE hS p fun xs S1 m1 H1 ws ed s1 hE1 hS1 hr1 p1 => by
      have el := hl _ _ _ _ ed
      split at p1
      · rename_i j
        split at p1
        · rename_i h
          obtain ⟨v, rfl, r1⟩ := one_rep hr1
          cases rep_int r1
          exact ⟨j, rfl, by omega, by omega, PostR.here (a := upTo 0 j.toNat) p1 hS1 (itOk_rng 0 j.toNat)⟩
        · exact p1.elim
      · simp at el
      · exact p1.elim
theorem ci_range2 (hg : Gl X "range") (hm : X.mg "range" = none) (ha : CA X T W [e, e2] dl) (hs : starEach [e, e2] X.env = [(false, eval e X.env), (false, eval e2 X.env)] := by rfl) (hs2 : starEach [e2] X.env = [(false, eval e2 X.env)] := by rfl) (hl : ∀ ρ S xs S1, dl ρ S = .ok xs S1 → xs.length = 2) : CI X T W tg (.Call (.Name "range" p) [e, e2] [] pos) (iRange dl) :=
  pi_imp (pi_range2 hg hm ha hs hs2) fun σ H R ⟨ρ, S, m, hE, hS, p⟩ =>
    tr_bindE (f := fun (xs : List PV) (_ : EnP) (S1 : Sto) => match xs with
      | [.int j] => if -1000000 ≤ j ∧ j ≤ 1000000 then Res.ok (upTo 0 j.toNat) S1 else .bad
      | [.int i, .int j] => if -1000000 ≤ i ∧ i ≤ 1000000 ∧ -1000000 ≤ j ∧ j ≤ 1000000 then .ok (upTo i (j - i).toNat) S1 else .bad
      | _ => .bad) hE hS p fun xs S1 m1 H1 ws ed s1 hE1 hS1 hr1 p1 => by
      have el := hl _ _ _ _ ed
      split at p1
      · simp at el
      · rename_i i j
        split at p1
        · rename_i h
          obtain ⟨v, u, rfl, r1, r2⟩ := two_rep hr1
          cases rep_int r1
          cases rep_int r2
          exact ⟨i, j, rfl, ⟨by omega, by omega, by omega, by omega⟩, PostR.here (a := upTo i (j - i).toNat) p1 hS1 (itOk_rng i _)⟩
        · exact p1.elim
      · exact p1.elim
end
theorem dNil_len {ρ : EnP} {S S1 : Sto} {xs : List PV} (h : dNil ρ S = .ok xs S1) : xs.length = 0 := by cases h; rfl
theorem dCons_len {da : EnP → Sto → Res PV} {dr : EnP → Sto → Res (List PV)} {n : Nat} (hr : ∀ ρ S xs S1, dr ρ S = .ok xs S1 → xs.length = n) : ∀ ρ S xs S1, dCons da dr ρ S = .ok xs S1 → xs.length = n + 1 := fun ρ S xs S1 h => by
  unfold dCons at h
  cases e1 : da ρ S with
  | bad => rw [e1] at h; cases h
  | exc c fs S2 => rw [e1] at h; cases h
  | ok x S2 =>
    rw [e1] at h
    have h : (dr ρ S2).bind (fun xs S2 => Res.ok (x :: xs) S2) = .ok xs S1 := h
    cases e2 : dr ρ S2 with
    | bad => rw [e2] at h; cases h
    | exc c fs S3 => rw [e2] at h; cases h
    | ok ys S3 =>
      rw [e2] at h
      cases h
      rw [List.length_cons, hr _ _ _ _ e2]
theorem len1 {da : EnP → Sto → Res PV} : ∀ ρ S xs S1, dCons da dNil ρ S = .ok xs S1 → xs.length = 1 := dCons_len fun _ _ _ _ h => dNil_len h
theorem len2 {da db : EnP → Sto → Res PV} : ∀ ρ S xs S1, dCons da (dCons db dNil) ρ S = .ok xs S1 → xs.length = 2 := dCons_len len1
end Mi
end
section
set_option Elab.async false
set_option linter.all false
set_option maxRecDepth 100000
set_option maxHeartbeats 2000000
namespace Mi
open PySem PySem.Spec PyProof.Rows L2

/-! ### zip of two, each a list or a tuple -/
def ItZ (K : PySem.W.Frag) (b1 b2 : Bool) (a1 a2 : Addr) : It :=
  ⟨fun i H => ∃ (xs ys : List V) (x y : V), SqX K b1 H a1 xs ∧ SqX K b2 H a2 ys ∧ xs[i]? = some x ∧ ys[i]? = some y,
    fun i H v H' => ∃ T x y, v = .ref T ∧ H T = none ∧ H' = upd H T (.tup [x, y]) ∧ (∀ xs, SqX K b1 H a1 xs → xs[i]? = some x) ∧ ∀ ys, SqX K b2 H a2 ys → ys[i]? = some y,
    fun i H => ∃ xs ys : List V, SqX K b1 H a1 xs ∧ SqX K b2 H a2 ys ∧ i ≤ xs.length ∧ i ≤ ys.length ∧ (xs.length = i ∨ ys.length = i)⟩
def itAt (b : Bool) (h : Heap) (it a : Addr) (i : Nat) : Prop := if b = true then h.IsTupleIter it a i else h.IsListIter it a i
theorem itAt.keep {b : Bool} {h h' : Heap} {it a : Addr} {i : Nat} (x : itAt b h it a i) (k : ∀ o, h.get? it = some o → h'.get? it = some o) : itAt b h' it a i := by
  unfold itAt at x ⊢
  cases b with
  | true => rw [if_pos rfl] at x ⊢; exact x.at k
  | false => rw [if_neg Bool.false_ne_true] at x ⊢; exact x.at k
theorem itAt.obj {b : Bool} {h : Heap} {it a : Addr} {i : Nat} (x : itAt b h it a i) : ∃ o, h.get? it = some o ∧ ∀ v, o.data ≠ .cell v := by
  unfold itAt at x
  cases b with
  | true => rw [if_pos rfl] at x; obtain ⟨o, e, _, d⟩ := x; exact ⟨o, e, fun v z => by rw [d] at z; cases z⟩
  | false => rw [if_neg Bool.false_ne_true] at x; obtain ⟨o, e, _, d⟩ := x; exact ⟨o, e, fun v z => by rw [d] at z; cases z⟩
/-- a source, and its iterator, drawn from -/
theorem draws_of {X : Cx} {pins : List (Addr × Obj)} {σ : L2.St} {H : Hp} {s : Shared} {b : Bool} {a it : Addr} {vs : List V} (hh : X.A.handled = none) (I : Inv X pins σ H s) (h : SqX X.K b H a vs) (hne : a ≠ it) :
    ∃ (its : List Value) (St : Nat → Heap → Prop), Vals vs its ∧ a < s.heap.objs.size ∧ Draws X.prog X.w X.A.in1 it [it, a] its.toArray.size (fun i v => its.toArray[i]? = some v) St ∧
      (∀ i, itAt b s.heap it a i → St i s.heap) ∧ ∀ i h', St i h' → itAt b h' it a i := by
  unfold SqX at h
  cases b with
  | true =>
    rw [if_pos rfl] at h
    obtain ⟨its, rv, p, _⟩ := I.tuple h
    have p2 : s.heap.IsTuple a its.toArray := p
    obtain ⟨o, ho, _⟩ := id p
    refine ⟨its, _, rv, Heap.lt_size ho, Draws.tuple (A := X.A.in1) hh it a hne its.toArray, fun i z => ⟨?_, p2⟩, fun i h' z => ?_⟩
    · unfold itAt at z; rw [if_pos rfl] at z; exact z
    · unfold itAt; rw [if_pos rfl]; exact z.1
  | false =>
    rw [if_neg Bool.false_ne_true] at h
    obtain ⟨its, rv, p, _⟩ := I.list h
    refine ⟨its, _, rv, p.lt, Draws.list (A := X.A.in1) hh it a hne its.toArray, fun i z => ⟨?_, p.isList⟩, fun i h' z => ?_⟩
    · unfold itAt at z; rw [if_neg Bool.false_ne_true] at z; exact z
    · unfold itAt; rw [if_neg Bool.false_ne_true]; exact z.1
theorem sqX_inj {X : Cx} {pins : List (Addr × Obj)} {σ : L2.St} {H : Hp} {s : Shared} {b : Bool} {a : Addr} {xs ys : List V} (I : Inv X pins σ H s) (h : SqX X.K b H a xs) (h' : SqX X.K b H a ys) : xs = ys := by
  unfold SqX at h h'
  cases b with
  | true => rw [if_pos rfl] at h h'; exact I.tuple_inj h h'
  | false => rw [if_neg Bool.false_ne_true] at h h'; exact I.list_inj h h'
theorem sep_of {a b z TI TO i1 i2 : Addr} (D : ZipApart z TI TO i1 i2 a b) : ZipSep2 z TI TO i1 i2 [i1, a] [i2, b] :=
  { TIz := D.TIz, TOz := D.TOz, TITO := D.TITO, TIi1 := D.TIi1, mem1 := by simp, zf1 := by simp [Ne.symm D.i1z, Ne.symm D.l1z], Tf1 := by simp [D.TOi1, Ne.symm D.l1TO],
    TIi2 := D.TIi2, mem2 := by simp, zf2 := by simp [Ne.symm D.i2z, Ne.symm D.l2z], Tf2 := by simp [D.TOi2, Ne.symm D.l2TO], sep1_2 := by simp [D.i12, Ne.symm D.l2i1], sep2_1 := by simp [Ne.symm D.i12, Ne.symm D.l1i2] }
theorem turn_Z {P : Program} {w : World} {K : PySem.W.Frag} {elts : List Expr} {kk : Nat} {tpos : Pos} {b1 b2 : Bool} {a b z TI TO i1 i2 : Addr} (D : ZipApart z TI TO i1 i2 a b) :
    Turn P w K (.Tuple elts kk tpos) (ItZ K b1 b2 a b) [z, TI, TO, i1, i2] z (fun i h => IsZip h z TI TO .none ∧ IsPair h TI (.ref i1) (.ref i2) ∧ (∃ x y, IsPair h TO x y) ∧ itAt b1 h i1 a i ∧ itAt b2 h i2 b i) where
  mem := by simp
  obj := fun i h st c hc => by
    obtain ⟨hz, hTI, ⟨x, y, hTO⟩, h1, h2⟩ := st
    have e' : c = z ∨ c = TI ∨ c = TO ∨ c = i1 ∨ c = i2 := by simpa using hc
    rcases e' with q | q | q | q | q
    · rw [q]; exact ⟨_, hz, fun v q => nomatch q⟩
    · rw [q]; exact ⟨_, hTI, fun v q => nomatch q⟩
    · rw [q]; exact ⟨_, hTO, fun v q => nomatch q⟩
    · rw [q]; exact h1.obj
    · rw [q]; exact h2.obj
  keep := fun i h h' st k => by
    obtain ⟨hz, hTI, ⟨x, y, hTO⟩, h1, h2⟩ := st
    exact ⟨k z (by simp) _ hz, k TI (by simp) _ hTI, ⟨x, y, k TO (by simp) _ hTO⟩, h1.keep fun o q => k i1 (by simp) o q, h2.keep fun o q => k i2 (by simp) o q⟩
  item := by
    intro X hP hw hK hc i pins s σ H E I hf st hg
    subst hP hw hK
    obtain ⟨hz, hTI, ⟨x0, y0, hTO⟩, h1, h2⟩ := st
    obtain ⟨xs, ys, x, y, hqx, hqy, hx, hy⟩ := hg
    obtain ⟨its, St1, rv, la, D1, in1, out1⟩ := draws_of (it := i1) (I.ok.hd hc) I hqx D.l1i1
    obtain ⟨its2, St2, rv2, lb, D2, in2, out2⟩ := draws_of (it := i2) (I.ok.hd hc) I hqy D.l2i2
    obtain ⟨u, hu, ru⟩ := rv.get hx
    obtain ⟨u2, hu2, ru2⟩ := rv2.get hy
    have hzl : z < s.heap.objs.size := Heap.lt_size hz
    have n1 : i < its.toArray.size := by
      rw [List.size_toArray, ← rv.length]
      exact (List.getElem?_eq_some_iff.mp hx).1
    have n2 : i < its2.toArray.size := by
      rw [List.size_toArray, ← rv2.length]
      exact (List.getElem?_eq_some_iff.mp hy).1
    refine wpAny_pyNext_zipD2_item (sep_of D) D1 D2 hz hTI hTO (in1 i h1) (in2 i h2) n1 n2 fun x1 x2 h' tk e1 e2 z' TO' st1' st2' hT hsz hk => ?_
    have ex1 : x1 = u := by
      have q : its.toArray[i]? = some u := by simpa using hu
      rw [q] at e1
      cases e1
      rfl
    have ex2 : x2 = u2 := by
      have q : its2.toArray[i]? = some u2 := by simpa using hu2
      rw [q] at e2
      cases e2
      rfl
    subst ex1 ex2
    refine ⟨_, rfl, wpAny_letOwnedTupleGo_zip (s := { s with heap := h', toks := tk }) z' fun h'' z'' sb => ?_⟩
    have hT2 : h''.get? s.heap.objs.size = some { cls := .type "tuple", data := .seq #[x1, x2] } := (sb.2 _ (Nat.ne_of_gt hzl)).trans hT
    have new : ObjOk X.prog X.w (upd H s.heap.objs.size (.tup [x, y])) h'' s.heap.objs.size (.tup [x, y]) :=
      ⟨by show 2 ≤ sizeLine; decide, [x1, x2], .cons ru (.cons ru2 .nil), ⟨_, hT2, rfl, _, rfl⟩⟩
    have I1 : Inv X pins σ (upd H s.heap.objs.size (.tup [x, y])) { s with heap := h'', toks := tk } :=
      I.turnedNew (t' := tk) (ch := [z, TI, TO, i1, i2]) (fun c o hb q => (sb.2 c (fun q' => hb (by simp [q']))).trans (hk c o (fun q' => hb (by simp [q'])) (fun q' => hb (by simp [q'])) (fun q' => hb (by simp [q'])) (fun q' => hb (by simp [q'])) q)) hf (Nat.le_refl _) new
    refine ⟨.ref s.heap.objs.size, _, I1, rfl, ⟨_, x, y, rfl, I.hok.fresh (Nat.le_refl _), rfl, fun l hl => by rw [sqX_inj I hl hqx]; exact hx, fun l hl => by rw [sqX_inj I hl hqy]; exact hy⟩, ⟨z'', ?_, ⟨x1, x2, ?_⟩, ?_, ?_⟩, fun c hcm => ?_⟩
    · exact (sb.2 _ D.TIz).trans (hk _ _ D.TIz D.TITO D.TIi1 D.TIi2 hTI)
    · exact (sb.2 _ D.TOz).trans TO'
    · exact (out1 _ _ st1').keep fun o q => (sb.2 _ D.i1z).trans q
    · exact (out2 _ _ st2').keep fun o q => (sb.2 _ D.i2z).trans q
    · have hlt : c < s.heap.objs.size := by
        have e' : c = z ∨ c = TI ∨ c = TO ∨ c = i1 ∨ c = i2 := by simpa using hcm
        rcases e' with q | q | q | q | q
        · rw [q]; exact hzl
        · rw [q]; exact Heap.lt_size hTI
        · rw [q]; exact Heap.lt_size hTO
        · rw [q]; obtain ⟨_, e1, _⟩ := h1.obj; exact Heap.lt_size e1
        · rw [q]; obtain ⟨_, e2, _⟩ := h2.obj; exact Heap.lt_size e2
      rw [upd_ne (Nat.ne_of_lt hlt)]
      exact (hf c hcm).1
  done := by
    intro X hP hw hK hc i pins s σ H E I hf st hg
    subst hP hw hK
    obtain ⟨hz, hTI, ⟨x0, y0, hTO⟩, h1, h2⟩ := st
    obtain ⟨xs, ys, hqx, hqy, l1, l2, hend⟩ := hg
    obtain ⟨its, St1, rv, la, D1, in1, out1⟩ := draws_of (it := i1) (I.ok.hd hc) I hqx D.l1i1
    obtain ⟨its2, St2, rv2, lb, D2, in2, out2⟩ := draws_of (it := i2) (I.ok.hd hc) I hqy D.l2i2
    have e1 := rv.length
    have e2 := rv2.length
    exact wpAny_pyNext_zipD2_end (sep_of D) D1 D2 hz hTI hTO (in1 i h1) (in2 i h2) (by simp; omega) (by simp; omega) (by simp; omega) fun h' tk hk => ⟨rfl, I.turnedL (t' := tk) (ch := [z, TI, TO, i1, i2]) (fun c o hb q =>
      hk c o (fun q' => hb (by simp [q'])) (fun q' => hb (by simp [q'])) (fun q' => hb (by simp [q'])) (fun q' => hb (by simp [q'])) q) hf⟩
  self := fun A i s Q E st h => wpAny_pyIter_zip st.1 h

/-- iter of a source begins -/
theorem begins_of {X : Cx} {pins : List (Addr × Obj)} {σ : L2.St} {H : Hp} {s : Shared} {b : Bool} {a : Addr} {vs : List V} (I : Inv X pins σ H s) (h : SqX X.K b H a vs) :
    ∃ (o : Obj) (Hh : Heap → Prop), Begins (.ref a) o Hh ∧ Hh s.heap ∧ a < s.heap.objs.size ∧ ∀ (h' : Heap) it, h'.get? it = some o → itAt b h' it a 0 := by
  unfold SqX at h
  cases b with
  | true =>
    rw [if_pos rfl] at h
    obtain ⟨its, rv, p, _⟩ := I.tuple h
    obtain ⟨o, ho, _⟩ := id p
    exact ⟨_, _, begins_tuple a its.toArray, p, Heap.lt_size ho, fun h' it e => by unfold itAt; rw [if_pos rfl]; exact ⟨_, e, rfl, rfl⟩⟩
  | false =>
    rw [if_neg Bool.false_ne_true] at h
    obtain ⟨its, rv, p, _⟩ := I.list h
    exact ⟨_, _, begins_list a its.toArray, p.isList, p.lt, fun h' it e => by unfold itAt; rw [if_neg Bool.false_ne_true]; exact ⟨_, e, rfl, rfl⟩⟩
def iZipX (K : PySem.W.Frag) (ta : TA) : TI := fun σ H R => ta σ H fun vs H1 => ∃ b1 b2 a b xs ys, vs = [.ref a, .ref b] ∧ SqX K b1 H1 a xs ∧ SqX K b2 H1 b ys ∧ R (ItZ K b1 b2 a b) H1
theorem pi_zipX {X : Cx} {e e2 : Expr} {ta : TA} {p pos tpos : Pos} {elts : List Expr} {kk : Nat} (hg : Gl X "zip") (hm : X.mg "zip" = none) (ha : PA X [e, e2] ta)
    (hs : starEach [e, e2] X.env = (false, eval e X.env) :: starEach [e2] X.env := by rfl) (hpl : (backTo pos (starEach [e2] X.env)).any (·.1) = false := by rfl) :
    PI X (.Tuple elts kk tpos) (.Call (.Name "zip" p) [e, e2] [] pos) (iZipX X.K ta) := by
  refine ⟨fun pins s σ H R I h => ?_⟩
  refine Call_ (ld_blt I hg hm PyProof.Rows.boot_zip (PyProof.Rows.callWith_type1 (thn (ha.run pos pins s σ H _ I h) fun us s1 ⟨vs, H1, I1, r1, q1⟩ => ?_) hs hpl))
  obtain ⟨b1, b2, a, b, xs, ys, ex, hqx, hqy, q⟩ := q1
  subst ex
  cases r1 with
  | cons r rr =>
    cases rr with
    | cons r' rr =>
      cases rr
      cases r
      cases r'
      have fresh5 : ∀ c, c ∈ [s1.heap.objs.size + 4, s1.heap.objs.size + 2, s1.heap.objs.size + 3, s1.heap.objs.size, s1.heap.objs.size + 1] → FpOk X pins H1 c := fun c hcm => by
        have e' : c = s1.heap.objs.size + 4 ∨ c = s1.heap.objs.size + 2 ∨ c = s1.heap.objs.size + 3 ∨ c = s1.heap.objs.size ∨ c = s1.heap.objs.size + 1 := by simpa using hcm
        have hle : s1.heap.objs.size ≤ c := by
          rcases e' with z | z | z | z | z
          · rw [z]; exact Nat.le_add_right _ _
          · rw [z]; exact Nat.le_add_right _ _
          · rw [z]; exact Nat.le_add_right _ _
          · rw [z]; exact Nat.le_refl _
          · rw [z]; exact Nat.le_add_right _ _
        exact I1.fpOk hle (I1.hok.fresh hle)
      obtain ⟨o1, Hh1, B1, k1, la, at1⟩ := begins_of I1 hqx
      obtain ⟨o2, Hh2, B2, k2, lb, at2⟩ := begins_of I1 hqy
      refine zip_begins2 B1 B2 k1 k2 fun h' hz hTI hTO g1 g2 hsz hk => wpAny_pyIter_zip hz ?_
      have I2 : Inv X pins σ H1 { s1 with heap := h' } := I1.kept (t' := s1.toks) hk
      exact ⟨s1.heap.objs.size + 4, [s1.heap.objs.size + 4, s1.heap.objs.size + 2, s1.heap.objs.size + 3, s1.heap.objs.size, s1.heap.objs.size + 1], _, _, H1, rfl, I2, turn_Z (PySem.W.ktu_apart s1.heap.objs.size a b la lb), ⟨hz, hTI, ⟨_, _, hTO⟩, at1 _ _ g1, at2 _ _ g2⟩, fresh5, q⟩

def zipP (xs ys : List PV) : List PV := (xs.zip ys).map fun p => .tup [p.1, p.2]
theorem itOk_zip {g : Gm} {m : Mm} {H : Hp} {x y : PV} {a b : Addr} {xs ys : List PV} (r : Rep g m H x (.ref a)) (e : srcP x = some xs) (r' : Rep g m H y (.ref b)) (e' : srcP y = some ys) : ItOk g (ItZ g.K (srcT x) (srcT y) a b) (zipP xs ys) m H := by
  refine ⟨fun m1 H1 S i t s hS ey => ?_, fun m1 H1 S i s hS hl => ?_⟩
  · obtain ⟨b1, vs, eb, h1, h2⟩ := src_rep (r.step s) e
    cases eb
    obtain ⟨b2, us, eb, h1', h2'⟩ := src_rep (r'.step s) e'
    cases eb
    unfold zipP at ey
    rw [List.getElem?_map] at ey
    cases e3 : (xs.zip ys)[i]? with
    | none => rw [e3] at ey; cases ey
    | some pq =>
      rw [e3] at ey
      cases ey
      obtain ⟨ex, ey⟩ := List.getElem?_zip_eq_some.mp e3
      obtain ⟨w, ew, r1⟩ := h2.get ex
      obtain ⟨w', ew', r2⟩ := h2'.get ey
      refine ⟨⟨vs, us, w, w', h1, h1', ew, ew'⟩, fun v H' ⟨TA, x', y', ev, hT, eH, f1, f2⟩ => ?_⟩
      have q1 := f1 vs h1
      have q2 := f2 us h1'
      rw [ew] at q1
      rw [ew'] at q2
      cases q1
      cases q2
      subst ev eH
      have st := step_new (m := m1) (o := HO.tup [w, w']) hT
      refine ⟨st, hS.new hT, ?_⟩
      unfold Rep
      exact ⟨_, _, rfl, .inl (.inl upd_same), (RepL.cons r1 (RepL.cons r2 RepL.nil)).step st⟩
  · obtain ⟨b1, vs, eb, h1, h2⟩ := src_rep (r.step s) e
    cases eb
    obtain ⟨b2, us, eb, h1', h2'⟩ := src_rep (r'.step s) e'
    cases eb
    unfold zipP at hl
    rw [List.length_map, List.length_zip] at hl
    have e1 := h2.length
    have e2 := h2'.length
    exact ⟨vs, us, h1, h1', by omega, by omega, by omega⟩
def iZip2 (dl : EnP → Sto → Res (List PV)) : EnP → Sto → Res (List PV) := fun ρ S => (dl ρ S).bind fun xs S1 => match xs with
  | [x, y] => (match srcP x, srcP y with
    | some a, some b => .ok (zipP a b) S1
    | _, _ => .bad)
  | _ => .bad
section
variable {X : Cx} {T : Tb} {W : WX} {pos tpos p : Pos} {e e2 : Expr} {elts : List Expr} {kk : Nat} {dl : EnP → Sto → Res (List PV)}
theorem ci_zip (hg : Gl X "zip") (hm : X.mg "zip" = none) (ha : CA X T W [e, e2] dl) (hs : starEach [e, e2] X.env = (false, eval e X.env) :: starEach [e2] X.env := by rfl) (hpl : (backTo pos (starEach [e2] X.env)).any (·.1) = false := by rfl) :
    CI X T W (.Tuple elts kk tpos) (.Call (.Name "zip" p) [e, e2] [] pos) (iZip2 dl) :=
  pi_imp (pi_zipX hg hm ha hs hpl) fun σ H R ⟨ρ, S, m, hE, hS, p⟩ =>
    tr_bindE (f := fun (xs : List PV) (_ : EnP) (S1 : Sto) => match xs with
      | [x, y] => (match srcP x, srcP y with
        | some a, some b => Res.ok (zipP a b) S1
        | _, _ => .bad)
      | _ => .bad) hE hS p fun xs S1 m1 H1 ws ed s1 hE1 hS1 hr1 p1 => by
      split at p1
      · rename_i x y
        split at p1
        · rename_i a b e1 e2
          obtain ⟨v, u, rfl, r1, r2⟩ := two_rep hr1
          obtain ⟨a1, vs, rfl, k1, _⟩ := src_rep r1 e1
          obtain ⟨a2, us, rfl, k2, _⟩ := src_rep r2 e2
          exact ⟨_, _, a1, a2, vs, us, rfl, k1, k2, PostR.here (a := zipP a b) p1 hS1 (itOk_zip r1 e1 r2 e2)⟩
        · exact p1.elim
      · exact p1.elim
end
end Mi
end
section
set_option Elab.async false
set_option linter.all false
set_option maxRecDepth 100000
set_option maxHeartbeats 2000000
namespace Mi
open PySem PySem.Spec PyProof.Rows L2

/-! ### a list that is being made -/
def Mm.open_ (m : Mm) (D : Addr) : Mm := ⟨m.ix, D :: m.ex⟩
def Mm.shut (m : Mm) (D : Addr) : Mm := ⟨m.ix, m.ex.filter (· != D)⟩
theorem RelE.emb {g : Gm} {m m' : Mm} {H H' : Hp} {ρ : EnP} {σ : L2.St} (s : Emb m H m' H') (r : RelE g m H ρ σ) : RelE g m' H' ρ σ :=
  ⟨r.len, fun i v e => let ⟨w, e1, e2⟩ := r.at_ i v e; ⟨w, e1, Rep.emb s _ _ e2⟩⟩
section
variable {g : Gm} {m m1 : Mm} {S : Sto} {H H1 : Hp} {D : Addr} {avs us : List V}
theorem step_open (hD : H D = none) : Step m H (m.open_ D) (upd H D (HO.lst [])) :=
  ⟨⟨[], by simp [Mm.open_]⟩, fun a h => List.mem_cons_of_mem _ h, fun a h1 h2 _ => by
      rcases List.mem_cons.mp h1 with e | e
      · rw [e]; exact nil_of hD
      · exact absurd e h2,
    fun a h1 h2 => absurd h1 h2, (step_new hD (m := m)).keep, (step_new hD (m := m)).tup, (step_new hD (m := m)).frz⟩
theorem RelS.open_ (h : RelS g m S H) (hD : H D = none) : RelS g (m.open_ D) S (upd H D (HO.lst [])) :=
  ⟨h.len, h.nd, fun a ha => by
    rcases List.mem_cons.mp ha with e | e
    · rw [e]
      exact ⟨(h.fresh hD).1, [], upd_same⟩
    · exact ⟨(h.exs a e).1, (h.exs a e).2.imp fun vs q => by rw [upd_ne (ne_of_none q hD)]; exact q⟩, fun n xs e => by
    obtain ⟨a, vs, e1, e2, e3⟩ := h.at_ n xs e
    exact ⟨a, vs, e1, by rw [upd_ne (ne_of_none e2 hD)]; exact e2, RepL.step (step_open hD) _ _ e3⟩, tabs_new hD h.tab⟩
/-- one more item -/
theorem emb_ex (hm : D ∈ m.ex) (hD : H D = some (HO.lst avs)) : Emb m H m (upd H D (HO.lst us)) :=
  ⟨fun n a e => e, fun a o n e nt => ⟨n, by rw [upd_ne (fun q : a = D => n.2 (by rw [q]; exact hm))]; exact e⟩, fun a xs e => by rw [upd_ne (ne_of e hD (fun z => by cases z))]; exact e, fun a o u e => by rw [upd_ne (ne_of e hD (fun z => by cases z))]; exact e⟩
theorem RelS.ex_ (h : RelS g m S H) (hm : D ∈ m.ex) (hD : H D = some (HO.lst avs)) : RelS g m S (upd H D (HO.lst us)) :=
  ⟨h.len, h.nd, fun a ha => ⟨(h.exs a ha).1, by
      by_cases q : a = D
      · rw [q, upd_same]; exact ⟨us, rfl⟩
      · rw [upd_ne q]; exact (h.exs a ha).2⟩, fun n xs e => by
    obtain ⟨a, vs, e1, e2, e3⟩ := h.at_ n xs e
    have na : a ≠ D := fun q => (h.exs D hm).1 (by rw [← q]; exact List.mem_of_getElem? e1)
    exact ⟨a, vs, e1, by rw [upd_ne na]; exact e2, RepL.emb (emb_ex hm hD) _ _ e3⟩, tabs_write hD h.tab⟩
theorem step_ex (s : Step m1 H1 m H) (hn : H1 D = none) (hD : H D = some (HO.lst avs)) : Step m1 H1 m (upd H D (HO.lst us)) :=
  ⟨s.pre, s.exo, s.exn, s.new, fun a o n e nt => by rw [upd_ne (ne_of_none e hn)]; exact s.keep a o n e nt, fun a xs e => by rw [upd_ne (ne_of_none e hn)]; exact s.tup a xs e, fun a o u e => by rw [upd_ne (ne_of_none e hn)]; exact s.frz a o u e⟩
/-- it is made: nobody changes it, or it comes to the store -/
theorem mem_shut {a : Addr} : a ∈ (m.shut D).ex ↔ a ∈ m.ex ∧ a ≠ D := by simp [Mm.shut]
theorem step_shut (s : Step m1 H1 m H) (h1 : D ∉ m1.ex) : Step m1 H1 (m.shut D) H :=
  ⟨s.pre, fun a ha => mem_shut.mpr ⟨s.exo a ha, fun q => h1 (by rw [← q]; exact ha)⟩, fun a ha n => s.exn a (mem_shut.mp ha).1 n, s.new, s.keep, s.tup, s.frz⟩
theorem step_shutP (s : Step m1 H1 m H) (hn : H1 D = none) (h1 : D ∉ m1.ex) : Step m1 H1 ((m.shut D).push D) H := by
  refine ⟨?_, (step_shut s h1).exo, (step_shut s h1).exn, fun a ha n => ?_, s.keep, s.tup, s.frz⟩
  · obtain ⟨l, e⟩ := s.pre
    exact ⟨l ++ [D], by show m.ix ++ [D] = _; rw [e, List.append_assoc]⟩
  · rcases List.mem_append.mp ha with z | z
    · exact s.new a z n
    · rw [List.mem_singleton.mp z]; exact nil_of hn
theorem emb_shut (hm : D ∈ m.ex) : Emb m H (m.shut D) H :=
  ⟨fun n a e => e, fun a o n e nt => ⟨⟨n.1, fun q => n.2 (mem_shut.mp q).1⟩, e⟩, fun a xs e => e, fun a o u e => e⟩
theorem emb_shutP (hm : D ∈ m.ex) : Emb m H ((m.shut D).push D) H :=
  ⟨fun n a e => by
      show (m.ix ++ [D])[n]? = some a
      rw [List.getElem?_append_left (List.getElem?_eq_some_iff.mp e).1]
      exact e, fun a o n e nt => ⟨⟨fun q => by
      rcases List.mem_append.mp q with z | z
      · exact n.1 z
      · exact n.2 (by rw [List.mem_singleton.mp z]; exact hm), fun q => n.2 (mem_shut.mp q).1⟩, e⟩, fun a xs e => e, fun a o u e => e⟩
theorem RelS.shut (h : RelS g m S H) (hm : D ∈ m.ex) : RelS g (m.shut D) S H :=
  ⟨h.len, h.nd, fun a ha => h.exs a (mem_shut.mp ha).1, fun n xs e => by
    obtain ⟨a, vs, e1, e2, e3⟩ := h.at_ n xs e
    exact ⟨a, vs, e1, e2, RepL.emb (emb_shut hm) _ _ e3⟩, h.tab⟩
theorem RelS.shutP {xs : List PV} (hb : Bare g) (h : RelS g m S H) (hm : D ∈ m.ex) (hD : H D = some (HO.lst avs)) (r : RepL g m H xs avs) : RelS g ((m.shut D).push D) (S ++ [SO.lst xs]) H := by
  refine ⟨?_, ?_, fun a ha => ⟨fun q => ?_, (h.exs a (mem_shut.mp ha).1).2⟩, fun n ys e => ?_, h.tab⟩
  · show (m.ix ++ [D]).length = _
    simp [h.len]
  · show (m.ix ++ [D]).Nodup
    rw [List.nodup_append]
    refine ⟨h.nd, by simp, fun a ha b hb q => ?_⟩
    rw [List.mem_singleton.mp hb] at q
    exact (h.exs D hm).1 (by rw [← q]; exact ha)
  · rcases List.mem_append.mp q with z | z
    · exact (h.exs a (mem_shut.mp ha).1).1 z
    · exact (mem_shut.mp ha).2 (List.mem_singleton.mp z)
  · by_cases hn : n < S.length
    · rw [List.getElem?_append_left hn] at e
      obtain ⟨a, vs, e1, e2, e3⟩ := h.at_ n ys e
      exact ⟨a, vs, (emb_shutP (H := H) hm).get n a e1, e2, RepL.emb (emb_shutP hm) _ _ e3⟩
    · rw [List.getElem?_append_right (by omega)] at e
      have hz : n - S.length = 0 := by
        have z := (List.getElem?_eq_some_iff.mp e).1
        simp at z; omega
      rw [hz] at e
      cases e
      refine ⟨D, avs, ?_, hD, by rw [hb]; exact RepL.emb (emb_shutP hm) _ _ r⟩
      show (m.ix ++ [D])[n]? = some D
      rw [List.getElem?_append_right (by rw [h.len]; omega), h.len, hz]
      rfl
end

/-! ### slots that a comprehension forgets -/
def wipeP (ρ : EnP) : List Nat → EnP
  | [] => ρ
  | v :: vs => (wipeP ρ vs).set v none
theorem wipeP_length (ρ : EnP) : ∀ vs : List Nat, (wipeP ρ vs).length = ρ.length
  | [] => rfl
  | v :: vs => by unfold wipeP; rw [List.length_set, wipeP_length ρ vs]
theorem wipe_get {σ : L2.St} {i : Nat} : ∀ {vs : List Nat}, i ∉ vs → (wipe σ vs)[i]? = σ[i]?
  | [], _ => rfl
  | v :: vs, h => by
    unfold wipe
    rw [List.getElem?_set_ne (fun e => h (by rw [e]; exact List.mem_cons_self))]
    exact wipe_get fun z => h (List.mem_cons_of_mem _ z)
theorem wipeP_some {ρ : EnP} {i : Nat} {x : PV} : ∀ {vs : List Nat}, (wipeP ρ vs)[i]? = some (some x) → ρ[i]? = some (some x) ∧ i ∉ vs
  | [], h => ⟨h, by simp⟩
  | v :: vs, h => by
    unfold wipeP at h
    by_cases hi : v = i
    · subst hi
      by_cases hv : v < (wipeP ρ vs).length
      · rw [List.getElem?_set_self hv] at h; cases h
      · rw [List.getElem?_eq_none (by simpa using hv)] at h; cases h
    · rw [List.getElem?_set_ne hi] at h
      obtain ⟨h1, h2⟩ := wipeP_some h
      exact ⟨h1, by simp only [List.mem_cons, not_or]; exact ⟨fun e => hi e.symm, h2⟩⟩
theorem RelE.wipe {g : Gm} {m : Mm} {H : Hp} {ρ : EnP} {σ : L2.St} (r : RelE g m H ρ σ) (vs : List Nat) : RelE g m H (wipeP ρ vs) (L2.wipe σ vs) :=
  ⟨by rw [wipeP_length, wipe_length, r.len], fun i v e => by
    obtain ⟨e1, e2⟩ := wipeP_some e
    obtain ⟨w, e3, e4⟩ := r.at_ i v e1
    exact ⟨w, by rw [wipe_get e2]; exact e3, e4⟩⟩
theorem wipe_get_in {σ : L2.St} {i : Nat} : ∀ {vs : List Nat}, i ∈ vs → i < σ.length → (wipe σ vs)[i]? = some none
  | v :: vs, h, hl => by
    unfold wipe
    by_cases hv : v = i
    · subst hv
      rw [List.getElem?_set_self (by rw [wipe_length]; exact hl)]
    · rw [List.getElem?_set_ne hv]
      refine wipe_get_in ?_ hl
      rcases List.mem_cons.mp h with e | e
      · exact absurd e.symm hv
      · exact e
theorem wipe_ext {σ τ : L2.St} {vs : List Nat} (hl : σ.length = τ.length) (h : ∀ i, i ∉ vs → σ[i]? = τ[i]?) : wipe σ vs = wipe τ vs := by
  refine List.ext_getElem? fun i => ?_
  by_cases hi : i ∈ vs
  · by_cases hlt : i < σ.length
    · rw [wipe_get_in hi hlt, wipe_get_in hi (by rw [← hl]; exact hlt)]
    · rw [List.getElem?_eq_none (by rw [wipe_length]; omega), List.getElem?_eq_none (by rw [wipe_length]; omega)]
  · rw [wipe_get hi, wipe_get hi, h i hi]
theorem wipe_wipe (σ : L2.St) (vs : List Nat) : wipe (wipe σ vs) vs = wipe σ vs := wipe_ext (wipe_length _ _) fun i hi => wipe_get hi
theorem wipe_set (σ : L2.St) (vs : List Nat) {i : Nat} (x : Option V) (h : i ∈ vs) : wipe (σ.set i x) vs = wipe σ vs := wipe_ext (by rw [List.length_set]) fun j hj => List.getElem?_set_ne (fun e => hj (by rw [← e]; exact h))

/-! ### targets of a comprehension -/
/-- the target takes a tree into own slots alone -/
def TgC (g : Gm) (vs : List Nat) (t : TG) (f : PV → EnP → Option EnP) : Prop :=
  ∀ (m : Mm) (H : Hp) (x : PV) (v : V) (ρ ρ' : EnP) (σ : L2.St) (Q : L2.St → Hp → Prop), Rep g m H x v → RelE g m H ρ σ → f x ρ = some ρ' → (∀ σ', wipe σ' vs = wipe σ vs → RelE g m H ρ' σ' → Q σ' H) → t v σ H Q
def TgCs (g : Gm) (vs : List Nat) (t : TGs) (f : List PV → EnP → Option EnP) : Prop :=
  ∀ (m : Mm) (H : Hp) (xs : List PV) (us : List V) (ρ ρ' : EnP) (σ : L2.St) (Q : L2.St → Hp → Prop), RepL g m H xs us → RelE g m H ρ σ → f xs ρ = some ρ' → (∀ σ', wipe σ' vs = wipe σ vs → RelE g m H ρ' σ' → Q σ' H) → t us σ H Q
def cNm (i : Nat) : PV → EnP → Option EnP := fun x ρ => some (ρ.set i (some x))
def cNil : List PV → EnP → Option EnP := fun xs ρ => match xs with
  | [] => some ρ
  | _ => none
def cCons (f : PV → EnP → Option EnP) (fs : List PV → EnP → Option EnP) : List PV → EnP → Option EnP := fun xs ρ => match xs with
  | x :: r => (match f x ρ with
    | some ρ' => fs r ρ'
    | none => none)
  | [] => none
def cTup (n : Nat) (fs : List PV → EnP → Option EnP) : PV → EnP → Option EnP := fun x ρ => match x with
  | .tup xs => if xs.length = n then fs xs ρ else none
  | _ => none
theorem tgc_name {g : Gm} {vs : List Nat} {i : Nat} (h : i ∈ vs) : TgC g vs (gName i) (cNm i) := fun m H x v ρ ρ' σ Q r hE e q => by
  cases e
  exact q _ (wipe_set σ vs _ h) (hE.set i r)
theorem tgcs_nil {g : Gm} {vs : List Nat} : TgCs g vs gNil cNil := fun m H xs us ρ ρ' σ Q r hE e q => by
  cases xs with
  | nil =>
    cases e
    unfold RepL at r
    exact ⟨r, q σ rfl hE⟩
  | cons x xs => cases e
theorem tgcs_cons {g : Gm} {vs : List Nat} {t : TG} {f : PV → EnP → Option EnP} {ts : TGs} {fs : List PV → EnP → Option EnP} (h : TgC g vs t f) (hs : TgCs g vs ts fs) : TgCs g vs (gCons t ts) (cCons f fs) := fun m H xs us ρ ρ' σ Q r hE e q => by
  cases xs with
  | nil => cases e
  | cons x xs =>
    unfold RepL at r
    obtain ⟨v, ws, rfl, r1, r2⟩ := r
    simp only [cCons] at e
    cases e1 : f x ρ with
    | none => rw [e1] at e; cases e
    | some ρ1 =>
      rw [e1] at e
      exact ⟨v, ws, rfl, h m H x v ρ ρ1 σ _ r1 hE e1 fun σ' w hE' => hs m H xs ws ρ1 ρ' σ' Q r2 hE' e fun σ'' w' hE'' => q σ'' (w'.trans w) hE''⟩
theorem tgc_tup {g : Gm} {vs : List Nat} {n : Nat} {ts : TGs} {fs : List PV → EnP → Option EnP} (hs : TgCs g vs ts fs) : TgC g vs (gTup g.K n ts) (cTup n fs) := fun m H x v ρ ρ' σ Q r hE e q => by
  cases x with
  | tup xs =>
    simp only [cTup] at e
    split at e
    · rename_i hl
      obtain ⟨a, us, rfl, h1, h2⟩ := tup_rep r
      exact ⟨a, us, rfl, h1, by rw [← h2.length]; exact hl, hs m H xs us ρ ρ' σ Q h2 hE e q⟩
    · cases e
  | _ => cases e

/-! ### comprehensions -/
abbrev W0 : WX := fun _ _ _ _ => False
def lcP (f : PV → EnP → Option EnP) (dt : EnP → Sto → Res Bool) (de : EnP → Sto → Res PV) (ρ : EnP) : List PV → List PV → Sto → Res (List PV)
  | [], acc, S => .ok acc S
  | x :: xs, acc, S => match f x ρ with
    | none => .bad
    | some ρ1 => (match dt ρ1 S with
      | .ok true S1 => (match de ρ1 S1 with
        | .ok y S2 => if acc.length < lim then lcP f dt de ρ xs (acc ++ [y]) S2 else .bad
        | _ => .bad)
      | .ok false S1 => lcP f dt de ρ xs acc S1
      | _ => .bad)
def dYes : EnP → Sto → Res Bool := fun _ S => .ok true S
def dLc (mt : Bool) (di : EnP → Sto → Res (List PV)) (f : PV → EnP → Option EnP) (dt : EnP → Sto → Res Bool) (de : EnP → Sto → Res PV) (vs : List Nat) : EnP → Sto → Res PV := fun ρ S =>
  (di ρ S).bind fun items S1 => (lcP f dt de (wipeP ρ vs) items [] S1).bind fun acc S2 => mkLst mt acc S2
theorem lc_sound {X : Cx} {T : Tb} {W : WX} {wi : TI} {g : TG} {tt : TT} {te : TE} {vs : List Nat} {di : EnP → Sto → Res (List PV)} {f : PV → EnP → Option EnP} {dt : EnP → Sto → Res Bool} {de : EnP → Sto → Res PV} (mt : Bool) (hb : mt = true → Bare (gm X T))
    (hi : ∀ σ H R, tr (gm X T) W (fun m' H' items J => ItOk (gm X T) J items m' H') di σ H R → wi σ H R) (hg : TgC (gm X T) vs g f)
    (ht : ∀ σ H Q, tb (gm X T) W0 dt σ H Q → tt σ H Q) (he : ∀ σ H Q, tv (gm X T) W0 de σ H Q → te σ H Q) {σ : L2.St} {H : Hp} {Q : VK} (h : tv (gm X T) W (dLc mt di f dt de vs) σ H Q) : tLc wi g tt te vs σ H Q := by
  obtain ⟨ρ, S, m, hE, hS, p⟩ := h
  refine hi _ _ _ (tr_bind (f := fun items ρ S1 => (lcP f dt de (wipeP ρ vs) items [] S1).bind fun acc S2 => mkLst mt acc S2) hE hS p fun items S1 m1 H1 J s1 hE1 hS1 hJ p1 D hD => ?_)
  have D1 : D ∉ m1.ex := (hS1.fresh hD).2
  refine ⟨fun i n H => ∃ S m acc avs, Step m1 H1 m H ∧ D ∈ m.ex ∧ H D = some (HO.lst avs) ∧ RepL (gm X T) m H acc avs ∧ RelS (gm X T) m S H ∧ RelE (gm X T) m H (wipeP ρ vs) (wipe σ vs) ∧ (n = items.length - i ∧ i ≤ items.length) ∧ PostV (gm X T) W σ m1 H1 Q ((lcP f dt de (wipeP ρ vs) (items.drop i) acc S).bind fun acc S2 => mkLst mt acc S2),
    ⟨_, S1, m1.open_ D, [], [], step_open hD, List.mem_cons_self, upd_same, RepL.nil, hS1.open_ hD, (hE1.wipe vs).step (step_open hD), ⟨rfl, Nat.zero_le _⟩, p1⟩, ?_⟩
  rintro i n H2 ⟨S2, m2, acc, avs, s2, hm2, hD2, ra, hS2, hE2, ⟨rfl, hle⟩, p2⟩
  by_cases hlt : i < items.length
  · right
    have ei : items[i]? = some items[i] := List.getElem?_eq_getElem hlt
    obtain ⟨hgo, hy⟩ := hJ.go m2 H2 S2 i items[i] s2 hS2 ei
    refine ⟨hgo, fun H => ∃ S m acc avs, Step m1 H1 m H ∧ D ∈ m.ex ∧ H D = some (HO.lst avs) ∧ RepL (gm X T) m H acc avs ∧ RelS (gm X T) m S H ∧ RelE (gm X T) m H (wipeP ρ vs) (wipe σ vs) ∧ PostV (gm X T) W σ m1 H1 Q ((lcP f dt de (wipeP ρ vs) (items.drop (i + 1)) acc S).bind fun acc S2 => mkLst mt acc S2),
      fun H' ⟨S', m', acc', avs', a, b, c, d, e, f1, k⟩ => ⟨items.length - (i + 1), by omega, S', m', acc', avs', a, b, c, d, e, f1, ⟨rfl, hlt⟩, k⟩, fun v H3 y => ?_⟩
    obtain ⟨s3, hS3, hr3⟩ := hy v H3 y
    rw [List.drop_eq_getElem_cons hlt] at p2
    unfold lcP at p2
    have D2 : D ∉ m2.ix := (hS2.exs D hm2).1
    have lstk : ∀ {m' H'}, Step m2 H2 m' H' → D ∈ m'.ex ∧ H' D = some (HO.lst avs) := fun s => ⟨s.exo D hm2, s.keep D _ D2 hD2 nt_lst⟩
    have hE3 := hE2.step s3
    cases ef : f items[i] (wipeP ρ vs) with
    | none => rw [ef] at p2; exact p2.elim
    | some ρ1 =>
      simp only [ef] at p2
      refine hg m2 H3 items[i] v (wipeP ρ vs) ρ1 (wipe σ vs) _ hr3 hE3 ef fun σ' w hE' => ⟨by rw [w, wipe_wipe], ?_⟩
      refine ht _ _ _ ⟨ρ1, S2, m2, hE', hS3, ?_⟩
      cases et : dt ρ1 S2 with
      | bad => simp only [et] at p2; exact p2.elim
      | exc c fs S3 => simp only [et] at p2; exact p2.elim
      | ok b S3 =>
        simp only [et] at p2
        intro m4 H4 b' s4 hS4 eb
        cases eb
        have s24 := s3.trans s4
        cases b with
        | false =>
          rw [if_neg Bool.false_ne_true]
          exact ⟨S3, m4, acc, avs, s2.trans s24, (lstk s24).1, (lstk s24).2, RepL.step s24 _ _ ra, hS4, hE2.step s24, p2⟩
        | true =>
          rw [if_pos rfl]
          refine he _ _ _ ⟨ρ1, S3, m4, hE'.step s4, hS4, ?_⟩
          cases ee : de ρ1 S3 with
          | bad => simp only [ee] at p2; exact p2.elim
          | exc c fs S5 => simp only [ee] at p2; exact p2.elim
          | ok y5 S5 =>
            simp only [ee] at p2
            by_cases hz : acc.length < lim
            · rw [if_pos hz] at p2
              intro m5 H5 w5 s5 hS5 hr5
              have s25 := s24.trans s5
              have k5 := lstk s25
              refine ⟨avs, k5.2, by rw [sizeLine_eq, ← ra.length]; exact hz, S5, m5, acc ++ [y5], avs ++ [w5], step_ex (s2.trans s25) hD k5.2, k5.1, upd_same, ?_, hS5.ex_ k5.1 k5.2, (hE2.step s25).emb (emb_ex k5.1 k5.2), p2⟩
              exact RepL.emb (emb_ex k5.1 k5.2) _ _ ((RepL.step s25 _ _ ra).append (RepL.cons hr5 RepL.nil))
            · rw [if_neg hz] at p2; exact p2.elim
  · left
    refine ⟨hJ.stop m2 H2 S2 i s2 hS2 (by omega), ?_⟩
    rw [List.drop_eq_nil_of_le (by omega)] at p2
    have p3 : PostV (gm X T) W σ m1 H1 Q (mkLst mt acc S2) := p2
    unfold mkLst at p3
    split at p3
    · cases mt with
      | true =>
        refine p3 ((m2.shut D).push D) H2 (.ref D) (step_shutP s2 hD D1) (hS2.shutP (hb rfl) hm2 hD2 ra) ?_
        show Rep _ _ _ (.ref S2.length) _
        unfold Rep
        refine ⟨D, ?_, rfl⟩
        show (m2.ix ++ [D])[S2.length]? = some D
        rw [List.getElem?_append_right (by rw [hS2.len]; omega), hS2.len]
        simp
      | false =>
        refine p3 (m2.shut D) H2 (.ref D) (step_shut s2 D1) (hS2.shut hm2) ?_
        show Rep _ _ _ (.nl acc) _
        unfold Rep
        exact ⟨D, avs, rfl, ⟨(hS2.exs D hm2).1, fun q => (mem_shut.mp q).2 rfl⟩, hD2, RepL.emb (emb_shut hm2) _ _ ra⟩
    · exact p3.elim
section
variable {X : Cx} {T : Tb} {W : WX} {elt tg iter c : Expr} {ifs : List Expr} {scope : Scope} {own : List (Str × Nat)} {pos spos : Pos} {g : TG} {di : EnP → Sto → Res (List PV)} {f : PV → EnP → Option EnP} {dt : EnP → Sto → Res Bool} {de : EnP → Sto → Res PV}
/-- a clause's tests -/
def CTs (X : Cx) (T : Tb) (ifs : List Expr) (dt : EnP → Sto → Res Bool) : Prop := ∃ tt : TT, PTs X ifs tt ∧ ∀ σ H Q, tb (gm X T) W0 dt σ H Q → tt σ H Q
theorem cts_nil : CTs X T [] dYes := ⟨_, pts_nil, fun σ H Q ⟨ρ, S, m, hE, hS, p⟩ => PostR.here (a := true) p hS rfl⟩
theorem cts_one (h : CT X T W0 c dt) : CTs X T [c] dt := ⟨_, pts_one h, fun σ H Q q => q⟩
/-- every block of this scope in X -/
abbrev InBlk (X : Cx) (scope : Scope) (P : Cx → Prop) : Prop := ∀ (s : Shared) (H : Hp) (C : Addr) (cl : List (Str × Addr)) (fp : List Addr), P (X.blk s H scope (compEnvC scope cl C X.env) fp)
theorem ce_lc (mt : Bool) (hb : mt = true → Bare (gm X T)) (hc : X.calm = true) (hN : X.N.Nodup) (hi : CI X T W tg iter di) (ok : BlkOk X.N X.env.scope scope own) (hg : InBlk X scope fun Y => PG Y tg g) (hf : TgC (gm X T) (own.map (·.2)) g f)
    (ht : InBlk X scope fun Y => PTs Y ifs (tb (gm X T) W0 dt)) (he : InBlk X scope fun Y => CE Y T W0 elt de) (hs : ∀ x, foldedSetIterable iter X.env x = pure x := by intro _; rfl) :
    CE X T W (.ListComp elt [⟨tg, iter, ifs, 0⟩] scope pos) (dLc mt di f dt de (own.map (·.2))) :=
  pe_imp (pe_lc hc hN hi ok hg ht (te := tv (gm X T) W0 de) he hs) fun σ H Q h => lc_sound mt hb (fun _ _ _ q => q) hf (fun _ _ _ q => q) (fun _ _ _ q => q) h
theorem pts_yes : PTs X [] (tb (gm X T) W0 dYes) := ⟨fun pins s σ H Q I ⟨ρ, S, m, hE, hS, p⟩ => pts_nil.run pins s σ H Q I (PostR.here (a := true) p hS rfl)⟩
/-- name = [..], on one line, the name a local -/
theorem cs_lc (mt : Bool) (hb : mt = true → Bare (gm X T)) {i : Nat} {y : Str} {py : Pos} (hc : X.calm = true) (hN : X.N.Nodup) (hy : X.N[i]? = some y) (hyl : X.env.scope.names.lookup y = some .local)
    (hsw : swapsWith (.ListComp elt [⟨tg, iter, ifs, 0⟩] scope pos) (some (.Name y py)) spos.line X.env = pure true) (hi : CI X T W tg iter di) (ok : BlkOk X.N X.env.scope scope own) (hg : InBlk X scope fun Y => PG Y tg g) (hf : TgC (gm X T) (own.map (·.2)) g f)
    (ht : InBlk X scope fun Y => PTs Y ifs (tb (gm X T) W0 dt)) (he : InBlk X scope fun Y => CE Y T W0 elt de) (hs : ∀ x, foldedSetIterable iter X.env x = pure x := by intro _; rfl) :
    CS X T W (.Assign [.Name y py] (.ListComp elt [⟨tg, iter, ifs, 0⟩] scope pos) spos) (dSet i (dLc mt di f dt de (own.map (·.2)))) :=
  ps_imp (ps_setLc hc hN hy hyl hsw hi ok hg ht (te := tv (gm X T) W0 de) he hs) fun D σ H ⟨ρ, S, m, hE, hS, p⟩ => by
    refine lc_sound (W := W) mt hb (fun _ _ _ q => q) hf (fun _ _ _ q => q) (fun _ _ _ q => q) ?_
    exact ts_bind (d := dLc mt di f dt de (own.map (·.2))) (k := fun v S1 => .nx (ρ.set i (some v)) S1) hE hS p fun v S1 m1 H1 w s1 hE1 hS1 hr p1 => p1.nx_here hS1 (hE1.set i hr)
end
end Mi
end
section
set_option Elab.async false
set_option linter.all false
set_option maxRecDepth 100000
set_option maxHeartbeats 2000000
namespace Mi
open PySem PySem.Spec PyProof.Rows L2

/-! ### defs and their calls -/
/-- what stands fast in a run -/
structure Wd where
  P : Program
  w : World
  K : PySem.W.Frag
  mg : Str → Option Value
  base : Heap
  T : Tb
abbrev Wd.g (Z : Wd) : Gm := ⟨Z.K, Z.mg, Z.T, none⟩
abbrev Wd.cx (Z : Wd) (N : List Str) (x : Str) (sc : Scope) (f : Addr) (cdv : Value) (A : Around) (outer : List Env) (s : Shared) (H : Hp) (E : XK) : Cx :=
  cxOf (L2.CX Z.P Z.w) Z.P Z.w Z.K Z.mg Z.base N x sc f cdv A outer s H E
abbrev wdOf (X : Cx) (T : Tb) : Wd := ⟨X.prog, X.w, X.K, X.mg, X.base, T⟩
def startP (n : Nat) (xs : List PV) : EnP := xs.map some ++ List.replicate (n - xs.length) none
def endOf : SR → Res PV
  | .nx _ S => .ok .non S
  | .rt v S => .ok v S
  | .exc c fs _ S => .exc c fs S
  | .bk _ _ => .bad
  | .ct _ _ => .bad
  | .bad => .bad
/-- a def by its body: n parameters, len names -/
def runF (n len : Nat) (d : EnP → Sto → SR) : List PV → Sto → Res PV := fun xs S => if xs.length = n then endOf (d (startP len xs) S) else .bad
/-- what the function object at f answers -/
def FA (Z : Wd) (k : Nat) (f : Addr) (F : List PV → Sto → Res PV) : Prop :=
  ∀ (A : Around) (outer : List Env) (s : Shared) (H : Hp) (us : List Value) (vs : List V) (xs : List PV) (S : Sto) (m : Mm) (Q : VK) (E : XK), Room k A → A.guards = some [] → Env0 Z.P Z.w Z.K Z.mg Z.base A outer s H → Vals vs us → RelS Z.g m S H → RepL Z.g m H xs vs →
    PostV Z.g (fun c d _ H => E c d H) [] m H Q (F xs S) → codeAny (model Z.P Z.w) A (.call (.ref f) ⟨us, []⟩) (CR (L2.CX Z.P Z.w) outer Z.P Z.w H s Q E) s
structure FC (Z : Wd) (k : Nat) (x : Str) (F : List PV → Sto → Res PV) : Prop where
  ex : ∃ f, Z.mg x = some (.ref f) ∧ PySem.W.keepIn Z.K (.ref f) = true ∧ FA Z k f F
theorem start_rel {g : Gm} {m : Mm} {H : Hp} {xs : List PV} {vs : List V} {N : List Str} (r : RepL g m H xs vs) : RelE g m H (startP N.length xs) (L2.start N vs) := by
  refine ⟨?_, fun i v e => ?_⟩
  · unfold startP L2.start
    rw [List.length_append, List.length_append, List.length_map, List.length_map, List.length_replicate, List.length_replicate, r.length]
  · unfold startP at e
    by_cases hi : i < xs.length
    · rw [List.getElem?_append_left (by rw [List.length_map]; exact hi), List.getElem?_map] at e
      cases ex : xs[i]? with
      | none => rw [ex] at e; cases e
      | some y =>
        rw [ex] at e
        cases e
        obtain ⟨w, e1, e2⟩ := r.get ex
        refine ⟨w, ?_, e2⟩
        unfold L2.start
        rw [List.getElem?_append_left (by rw [List.length_map, ← r.length]; exact hi), List.getElem?_map, e1]
        rfl
    · rw [List.getElem?_append_right (by rw [List.length_map]; omega), List.getElem?_replicate] at e
      split at e <;> cases e
theorem endOf_post {g : Gm} {W : WX} {m : Mm} {H : Hp} {Q : VK} {r : SR} {σ : L2.St} (hW : ∀ c d σ σ' H, W c d σ H → W c d σ' H) (p : PostV g W σ m H Q (endOf r)) : PostS g W { nx := fun _ H' => Q .non H', rt := Q } m H r := by
  cases r with
  | nx ρ S => exact fun m' H' σ' s h1 h2 => p m' H' .non s h1 mk_non
  | rt v S => exact fun m' H' w s h1 h2 => p m' H' w s h1 h2
  | exc c fs ρ S => exact fun m' H' σ' cls dd s h1 h2 h3 => hW _ _ _ _ _ (p m' H' cls dd s h1 h3)
  | _ => exact p.elim
/-- a def as it stands, with its code object -/
structure FunC (K : PySem.W.Frag) (x : Str) (st : Stmt) (f : Addr) (cdv : Value) : Prop where
  ex : ∃ (oc : Value) (od : Option Addr) (kV doc pm : Value) (an : Option Addr) (ct : Value) (osl : Array (Option Value)),
    K.lookup f = some ⟨oc, od, .func (PySem.W.fnOf x x (defArgs st) (defBody st) (defScope st) .none kV doc pm an cdv ct), osl⟩
  cd : PySem.W.codeIn K cdv x = true
/-- how its arguments are bound -/
abbrev BindC (x : Str) (st : Stmt) (ps : List Str) : Prop := ∀ (kV doc pm : Value) (an : Option Addr) (cdv ct : Value) (us : List Value), us.length = ps.length → bindArgs (PySem.W.fnOf x x (defArgs st) (defBody st) (defScope st) .none kV doc pm an cdv ct) ⟨us, []⟩ = pure (ps.zip us)
theorem run_body {Z : Wd} {k : Nat} {x : Str} {st : Stmt} {f : Addr} {cdv : Value} {N ps : List Str} {t : TS} (F : FunC Z.K x st f cdv) (Sc : FnScope N ps (defScope st)) (hb : BindC x st ps)
    {A : Around} {outer : List Env} {s : Shared} {H : Hp} {us : List Value} {vs : List V} {Q : VK} {E : XK} (hr : Room (k + 1) A) (e0 : Env0 Z.P Z.w Z.K Z.mg Z.base A outer s H) (rv : Vals vs us) (hul : us.length = ps.length)
    (body : PSs (Z.cx N x (defScope st) f cdv A outer s H E) (defBody st) t) (hp : t { nx := fun _ H' => Q .non H', rt := Q } (L2.start N vs) H) :
    codeAny (model Z.P Z.w) A (.call (.ref f) ⟨us, []⟩) (CR (L2.CX Z.P Z.w) outer Z.P Z.w H s Q E) s := by
  obtain ⟨oc, od, kV, doc, pm, an, ct, osl, lk⟩ := F.ex
  have KX : Z.K.In s.heap := e0.mod.kin.keeps fun b o e => (e0.bs b o e).1
  have hvl : vs.length = ps.length := by rw [rv.length]; exact hul
  have places : ∀ y ∈ ps.zip us, (defScope st).names.lookup y.1 = some .local ∨ ((defScope st).names.lookup y.1 = some .cell ∧ ((cellsFrom (s.heap.objs.size + 1) (defScope st).names []).lookup y.1).isSome = true) := fun y hy => by
    rcases Sc.par y.1 (List.of_mem_zip (a := y.1) (b := y.2) hy).1 with q | q
    · exact .inl q
    · exact .inr ⟨q, PySem.W.cellsFrom_some _ _ _ (.inl q)⟩
  refine codeAny_call_cells hr.depth (KX _ _ lk) rfl (e0.mod.nolimit.keeps fun b o e => (e0.bs b o e).1) (PySem.W.codeRec_of KX F.cd) rfl (hb kV doc pm an cdv ct us hul) rfl places (fun s₁ ic => ?_) Sc.co Sc.gen Sc.kind
  have J : Inv (Z.cx N x (defScope st) f cdv A outer s H E) [] (L2.start N vs) H s₁ := inv_start Sc hr.hd e0 hvl rv ic
  refine wpAny_mono (body.run [] s₁ _ H _ J hp) (fun fl s' hs => ?_) fun _ _ hs => hs
  cases fl with
  | next => obtain ⟨σ', H', J', q⟩ := hs; exact ⟨.non, H', J'.os, J'.bare, J'.base, J'.hok, rfl, q⟩
  | ret u => obtain ⟨v, σ', H', J', r, q⟩ := hs; exact ⟨v, H', J'.os, J'.bare, J'.base, J'.hok, r, q⟩
  | brk => obtain ⟨_, _, _, q⟩ := hs; exact q.elim
  | cont => obtain ⟨_, _, _, q⟩ := hs; exact q.elim
theorem fa_of {Z : Wd} {k : Nat} {x : Str} {st : Stmt} {f : Addr} {cdv : Value} {N ps : List Str} {d : EnP → Sto → SR} (F : FunC Z.K x st f cdv) (Sc : FnScope N ps (defScope st)) (hb : BindC x st ps)
    (body : ∀ (A : Around) (outer : List Env) (s : Shared) (H : Hp) (E : XK), Room k (A.deeper (envOfC x (defScope st) s.heap.objs.size f cdv)) → A.guards = some [] → CSs (Z.cx N x (defScope st) f cdv A outer s H E) Z.T (fun c d _ H => E c d H) (defBody st) d) :
    FA Z (k + 1) f (runF ps.length N.length d) := by
  intro A outer s H us vs xs S m Q E hr hgd e0 rv hS rx p
  unfold runF at p
  split at p
  case isFalse => exact p.elim
  rename_i hl
  have hul : us.length = ps.length := by rw [← rv.length, ← rx.length]; exact hl
  have eg : Z.g = gm (Z.cx N x (defScope st) f cdv A outer s H E) Z.T := congrArg (Gm.mk Z.K Z.mg Z.T) hr.hd.symm
  rw [eg] at hS rx p
  exact run_body F Sc hb hr e0 rv hul (body A outer s H E (hr.deeper _) hgd) ⟨_, S, m, start_rel rx, hS, endOf_post (fun _ _ _ _ _ h => h) p⟩
theorem gm_none {X : Cx} {T : Tb} (h : X.A.handled = none) : gm X T = (wdOf X T).g := by
  show Gm.mk _ _ _ X.A.handled = _
  rw [h]
theorem FA.mono {Z : Wd} {j k : Nat} {f : Addr} {F : List PV → Sto → Res PV} (h : FA Z j f F) (hjk : j ≤ k) : FA Z k f F := fun A outer s H us vs xs S m Q E hr => h A outer s H us vs xs S m Q E (hr.mono hjk)
theorem FA.call {X : Cx} {T : Tb} {W : WX} {k : Nat} {f : Addr} {F : List PV → Sto → Res PV} (c : FA (wdOf X T) k f F) (hr : Room k X.A) (hgd : X.A.guards = some []) (tk : Takes X W) {pins : List (Addr × Obj)} {σ : L2.St} {H : Hp} {s : Shared} {Q : VK} {us : List Value} {vs : List V} {xs : List PV} {S : Sto} {m : Mm}
    (I : Inv X pins σ H s) (rv : Vals vs us) (hS : RelS (gm X T) m S H) (rx : RepL (gm X T) m H xs vs) (p : PostV (gm X T) W σ m H Q (F xs S)) : wpAny (model X.prog X.w) X.A (call (.ref f) us) (EP X pins σ Q) X.xe s := by
  rw [gm_none hr.hd] at hS rx p
  have p2 : PostV (wdOf X T).g (fun c d _ H => W c d σ H) [] m H Q (F xs S) := by
    cases e : F xs S with
    | ok a S1 => rw [e] at p; exact p
    | exc c fs S1 => rw [e] at p; exact p
    | bad => rw [e] at p; exact p
  refine wpAny_call (codeAny_mono (c X.A X.stack s H us vs xs S m Q (fun c d H => W c d σ H) hr hgd I.env0 rv hS rx p2) fun r s' hq => ?_)
  cases r with
  | error e => exact tk e s' (XE.of_call I (fun _ _ _ h => h) hq)
  | ok fl =>
    cases fl with
    | ret u => exact I.after hq
    | _ => exact False.elim hq
section
variable {X : Cx} {T : Tb} {W : WX} {j k : Nat} {x : Str} {p pos : Pos} {e : Expr} {es : List Expr} {F : List PV → Sto → Res PV} {dl : EnP → Sto → Res (List PV)}
theorem ce_call (c : FC (wdOf X T) j x F) (C : Ctx X k W) (hjk : j ≤ k) (hg : Gl X x) (ha : CA X T W (e :: es) dl) (hdb : (x == ("__debug__" : Str)) = false := by decide)
    (he : starEach (e :: es) X.env = (false, eval e X.env) :: starEach es X.env := by rfl) (hpl : (backTo pos (starEach es X.env)).any (·.1) = false := by rfl) : CE X T W (.Call (.Name x p) (e :: es) [] pos) (dCB F dl) := by
  obtain ⟨f, hm, hk, fa⟩ := c.ex
  refine ⟨fun pins s σ H Q I h => ?_⟩
  obtain ⟨ρ, S, m, hE, hS, q⟩ := h
  refine wpAny_Call_Name_kw (ld_glob I hg hm ?_ hdb)
  refine PySem.W.callWith_K (h₀ := X.base) I.ok.mod.kin hk (thn (ha.run pos pins s σ H (fun vs H1 => ∃ xs S1 m1, RelS (gm X T) m1 S1 H1 ∧ RepL (gm X T) m1 H1 xs vs ∧ PostV (gm X T) W σ m1 H1 Q (F xs S1)) I ?_) fun us s1 ⟨vs, H1, I1, r, xs, S1, m1, a1, a2, a3⟩ => ⟨I1.kIn, ?_⟩) he hpl
  · exact tr_bind (f := fun xs _ S1 => F xs S1) hE hS q fun xs S1 m1 H1 ws s1 hE1 hS1 hr1 p1 => ⟨xs, S1, m1, hS1, hr1, p1⟩
  · exact (fa.mono hjk).call C.room C.gd C.tk I1 r a1 a2 a3
theorem ce_call0 (c : FC (wdOf X T) j x F) (C : Ctx X k W) (hjk : j ≤ k) (hg : Gl X x) (hdb : (x == ("__debug__" : Str)) = false := by decide) : CE X T W (.Call (.Name x p) [] [] pos) (dCB F dNil) := by
  obtain ⟨f, hm, hk, fa⟩ := c.ex
  refine ⟨fun pins s σ H Q I h => ?_⟩
  obtain ⟨ρ, S, m, hE, hS, q⟩ := h
  refine wpAny_Call_Name_kw (ld_glob I hg hm ?_ hdb)
  exact PySem.W.callWith_K0 I.kIn hk ((fa.mono hjk).call C.room C.gd C.tk I .nil hS RepL.nil q)
/-- the context of a def's body -/
theorem ctx_of {Z : Wd} {N : List Str} {sc : Scope} {f : Addr} {cdv : Value} {A : Around} {outer : List Env} {s : Shared} {H : Hp} {E : XK} (hr : Room k (A.deeper (envOfC x sc s.heap.objs.size f cdv))) (hg : A.guards = some []) : Ctx (Z.cx N x sc f cdv A outer s H E) k (fun c d _ H => E c d H) :=
  ⟨hr, hg, rfl, takes_of rfl rfl rfl rfl, passes_of rfl⟩
/-- the context of a comprehension's block -/
theorem Ctx.blk (C : Ctx X k W) {s : Shared} {H : Hp} {scope : Scope} {cenv : Env} {fp : List Addr} : Ctx (X.blk s H scope cenv fp) k W0 := ⟨C.room, C.gd, C.calm, takes0, PassesOwn.never⟩
end
end Mi
end
section
set_option Elab.async false
set_option linter.all false
set_option maxRecDepth 100000
set_option maxHeartbeats 2000000
namespace Mi
open PySem PySem.Spec PyProof.Rows L2

/-! ### own errors -/
abbrev veMro : List Value := [.type "ValueError", .type "Exception", .type "BaseException", .type "object"]
/-- an own error without fields, a ValueError -/
structure EC (K : PySem.W.Frag) (mg : Str → Option Value) (x : Str) : Prop where
  ex : ∃ C, mg x = some (.ref C) ∧ PySem.W.keepIn K (.ref C) = true ∧ PySem.W.excIn K C veMro "ValueError.__new__" = true ∧
    PySem.W.subIn K (.ref C) (.type "BaseException") = some true ∧ PySem.W.typeIn K (.ref C) = some (.type "type") ∧ ExcC K C
section
variable {X : Cx} {C : Addr} {bmB : List Value} {B newId initId : String}
/-- X() -/
theorem pmk_own0 {x : Str} {p pos : Pos} (F : ExcBaseFacts B newId initId bmB) (q : PySem.W.excIn X.K C bmB newId = true) (gC : X.mg x = some (.ref C)) (kC : PySem.W.keepIn X.K (.ref C) = true) (r : Raises X (.ref C)) (hg : Gl X x)
    (hdb : (x == ("__debug__" : Str)) = false := by decide) : PMk X (.Call (.Name x p) [] [] pos) (fun _ H Q => Q (.ref C) none H) := fun pins s σ H Q I h => by
  refine wpAny_Call_Name_kw (ld_glob I hg gC (PySem.W.callWith_K0 I.kIn kC ?_) hdb)
  obtain ⟨bm, N, nm, qn, bs, hdct, sn, sub, ab, col, dd, k0, k1, k2, k3, k5, mN, hC, hN, hni, T⟩ := exc_obj I.kIn q
  exact wpAny_call_exc_subT F T hC hN hni (fun h' e hm => mk_of I hm r h (I.hok.gone hm.new)) (Nat.zero_le _)
end
def dRaise (x : Str) : EnP → Sto → SR := fun ρ S => .exc x [] ρ S
theorem cs_raise0 {X : Cx} {T : Tb} {W : WX} {x : Str} {p pos pos2 : Pos} (e : EC X.K X.mg x) (hc : X.calm = true) (tk : Takes X W) (hg : Gl X x) (hdb : (x == ("__debug__" : Str)) = false := by decide) :
    CS X T W (.Raise (some (.Call (.Name x p) [] [] pos)) none pos2) (dRaise x) := by
  obtain ⟨C, h1, h2, h3, h4, h5, _⟩ := e.ex
  refine ps_imp (ps_raise hc tk (pmk_own0 PySem.F.excBase_ValueError h3 h1 h2 (raises_own h4 h5) hg hdb)) fun D σ H ⟨ρ, S, m, hE, hS, p⟩ => ?_
  exact p m H σ (.ref C) none (Step.refl m H) hS hE ⟨C, h1, rfl, fun _ => rfl, fun n => absurd rfl n⟩

/-! ### try: body, except x as n: suite (the suite looks at the error, and returns a flat value) -/
def errEnv (n i : Nat) : EnP := (List.replicate n none).set i (some .err)
def tryEnd (ρ1 : EnP) (c : Str) (fs : List (Str × PV)) (S1 : Sto) : Option Bool → SR → SR
  | some true, .rt v S2 => if flatP v = true ∧ S2.isEmpty = true then .rt v S1 else .bad
  | some true, _ => .bad
  | some false, _ => .exc c fs ρ1 S1
  | none, _ => .bad
def dTry (i : Nat) (cat : Str → Option Bool) (db : EnP → Sto → SR) (ds : Str → List (Str × PV) → EnP → Sto → SR) : EnP → Sto → SR := fun ρ S => match db ρ S with
  | .exc c fs ρ1 S1 => tryEnd ρ1 c fs S1 (cat c) (ds c fs (errEnv ρ1.length i) [])
  | r => r
/-- under an error -/
abbrev gE (X : Cx) (T : Tb) (a : Addr) : Gm := ⟨X.K, X.mg, T, some (.ref a)⟩
theorem flat_any {g g' : Gm} {m m' : Mm} {H H' : Hp} {x : PV} {v : V} (h : flatP x = true) (r : Rep g m H x v) : Rep g' m' H' x v := by
  cases x with
  | non => rw [rep_non r]; exact mk_non
  | bl b => rw [rep_bl r]; exact mk_bl b
  | int i => rw [rep_int r]; exact mk_int i
  | str s => rw [rep_str r]; exact mk_str s
  | _ => cases h
theorem step_hid {m m2 : Mm} {H H2 : Hp} {l : List Addr} (s : Step ⟨[], l⟩ H m2 H2) : Step m H m H2 :=
  ⟨⟨[], by simp⟩, fun _ h => h, fun a h1 h2 => absurd h1 h2, fun a h1 h2 => absurd h1 h2, fun a o _ e n => s.keep a o (by simp) e n, s.tup, s.frz⟩
theorem relS_hid {g : Gm} {m m2 : Mm} {S : Sto} {H H2 : Hp} {l : List Addr} (h : RelS g m S H) (s : Step ⟨[], l⟩ H m2 H2) (t : LamX.Tabs g.T.tabs H2) : RelS g m S H2 :=
  ⟨h.len, h.nd, fun a ha => ⟨(h.exs a ha).1, (h.exs a ha).2.imp fun vs e => s.keep a _ (by simp) e nt_lst⟩, fun n xs e => by
    obtain ⟨a, vs, e1, e2, e3⟩ := h.at_ n xs e
    exact ⟨a, vs, e1, s.keep a _ (by simp) e2 nt_lst, RepL.step (step_hid s) _ _ e3⟩, t⟩
theorem relS_none {g g' : Gm} {m : Mm} {S : Sto} {H : Hp} (h : RelS g m S H) (et : g'.T.tabs = g.T.tabs) : RelS g' ⟨[], m.ix ++ m.ex⟩ [] H :=
  ⟨rfl, List.nodup_nil, fun a ha => ⟨by simp, by
    rcases List.mem_append.mp ha with z | z
    · exact h.tracked z
    · exact (h.exs a z).2⟩, fun n xs e => by simp at e, by rw [et]; exact h.tab⟩
section
variable {X : Cx} {T : Tb} {W : WX} {x n : Str} {c : Value} {i : Nat} {body suite : List Stmt} {b₀ : Stmt} {np pos pos' : Pos} {db : EnP → Sto → SR} {ds : Str → List (Str × PV) → EnP → Sto → SR} {cat : Str → Option Bool}
theorem cs_try (hs : X.stack = X.env :: X.outer) (hf : X.env.frame = some X.env.locals) (hN : X.N.Nodup) (hi : X.N[i]? = some n) (hln : X.env.kindOf n = some .local) (hc : Names X x c) (tk : Takes X W)
    (hcat : ∀ c' b, cat c' = some b → ∀ C, X.mg c' = some (.ref C) → PySem.W.exmOne X.K (.ref C) c = some b)
    (hb : ∀ (W : WX) (pn : List (Addr × Obj)) (xe : Value → Shared → Prop), Takes (X.tr pn xe) W → PassesOwn (model X.prog X.w) X.A X.env xe → CSs (X.tr pn xe) T W body db)
    (hsu : ∀ (c' : Str) (fs : List (Str × PV)) (C a : Addr) (oe : Obj) (d : Option Addr) (pn : List (Addr × Obj)), X.mg c' = some (.ref C) → (fs = [] → d = none) → Zc (.ref C) d oe → (∃ vs, oe.data = .fields vs) → CSs (X.suite a ((a, oe) :: pn)) T W0 (b₀ :: suite) (ds c' fs)) :
    CS X T W (.Try body [.ExceptHandler (some (.Name x np)) (some n) (b₀ :: suite) pos'] [] [] pos) (dTry i cat db ds) := by
  refine ps_imp (ps_try_as (tb := fun W => ts (gm X T) W db) (ts := fun a cls d D σ H => ∃ c' fs C, cls = .ref C ∧ X.mg c' = some (.ref C) ∧ (fs = [] → d = none) ∧ ts (gE X T a) W0 (ds c' fs) D σ H) (Wout := W) hs hf hN hi hln hc tk hb fun a oe cls d pn hz hv => ?_) fun D σ H ⟨ρ, S, m, hE, hS, p⟩ => ⟨ρ, S, m, hE, hS, ?_⟩
  · refine ⟨fun pins s σ H D I h => ?_⟩
    obtain ⟨c', fs, C, rfl, e1, e2, h⟩ := h
    exact (hsu c' fs C a oe d pn e1 e2 hz hv).run pins s σ H D I h
  · unfold dTry at p
    cases hd : db ρ S with
    | exc c' fs ρ1 S1 =>
      simp only [hd] at p
      intro m' H' σ' cls dd s hS' hE' hx
      obtain ⟨C, e1, rfl, e2, _⟩ := hx
      cases hcb : cat c' with
      | none => simp only [hcb] at p; exact p.elim
      | some b =>
        refine ⟨b, hcat c' b hcb C e1, fun eb a na => ?_, fun eb => ?_⟩
        · subst eb
          rw [hcb] at p
          cases hds : ds c' fs (errEnv ρ1.length i) [] with
          | rt v S2 =>
            rw [hds] at p
            have pq : PostS (gm X T) W D m H (if flatP v = true ∧ S2.isEmpty = true then .rt v S1 else .bad) := p
            by_cases hv : flatP v = true ∧ S2.isEmpty = true
            · rw [if_pos hv] at pq
              obtain ⟨v1, v2⟩ := hv
              have v2 : S2 = [] := by simpa using v2
              subst v2
              refine ⟨c', fs, C, rfl, e1, e2, errEnv ρ1.length i, [], ⟨[], m'.ix ++ m'.ex⟩, ⟨?_, fun j u ej => ?_⟩, relS_none hS' rfl, ?_⟩
              · unfold errEnv
                rw [List.length_set, List.length_replicate, List.length_set, hE'.len]
              · unfold errEnv at ej
                by_cases hj : i = j
                · subst hj
                  by_cases hl : i < ρ1.length
                  · rw [List.getElem?_set_self (by rw [List.length_replicate]; exact hl)] at ej
                    cases ej
                    refine ⟨.ref a, by rw [List.getElem?_set_self (by rw [← hE'.len]; exact hl)], ?_⟩
                    unfold Rep
                    exact ⟨a, rfl, rfl⟩
                  · rw [List.getElem?_eq_none (by rw [List.length_set, List.length_replicate]; omega)] at ej; cases ej
                · rw [List.getElem?_set_ne hj, List.getElem?_replicate] at ej
                  split at ej <;> cases ej
              · rw [hds]
                intro m2 H2 w s2 hS2 hr
                have t2 : LamX.Tabs T.tabs H2 := hS2.tab
                exact pq m' H2 w (s.trans (step_hid s2)) (relS_hid hS' s2 t2) (flat_any v1 hr)
            · rw [if_neg hv] at pq; exact pq.elim
          | _ => rw [hds] at p; exact p.elim
        · subst eb
          rw [hcb] at p
          have p2 : PostS (gm X T) W D m H (.exc c' fs ρ1 S1) := by
            cases hds : ds c' fs (errEnv ρ1.length i) [] <;> (rw [hds] at p; exact p)
          exact p2 m' H' σ' (.ref C) dd s hS' hE' ⟨C, e1, rfl, e2, by assumption⟩
    | _ => simp only [hd] at p; exact p
/-- isinstance(error, C) in a suite -/
def fIsE (isT : PV → Option Bool) : List PV → Sto → Res PV
  | [.err, t], S => match isT t with
    | some b => .ok (.bl b) S
    | none => .bad
  | _, _ => .bad
/-- what the classes say: c's errors are of the type t -/
def IsT (K : PySem.W.Frag) (mg : Str → Option Value) (C : Addr) (isT : PV → Option Bool) : Prop :=
  (∀ x b, isT (.glb x) = some b → ∀ D, mg x = some (.ref D) → PySem.W.kitOne K (.ref C) (.ref D) = some b) ∧ (∀ n b, isT (.ty n) = some b → PySem.W.kitOne K (.ref C) (.type n) = some b) ∧
    ∀ t, (∀ x, t ≠ .glb x) → (∀ n, t ≠ .ty n) → isT t = none
theorem sl_isE {a D : Addr} {pn : List (Addr × Obj)} {isT : PV → Option Bool} (ht : IsT X.K X.mg D isT) : SndL (gm (X.suite a pn) T) (rIsE X.K D a) (fIsE isT) := by
  intro W σ m S H xs vs Q hS r p
  unfold fIsE at p
  split at p
  · rename_i t
    obtain ⟨v, u, rfl, r1, r2⟩ := two_rep r
    unfold Rep at r1
    obtain ⟨a', e1, rfl⟩ := r1
    have e1 : some (Value.ref a) = some (.ref a') := e1
    cases e1
    split at p
    · rename_i b eb
      cases t with
      | glb x =>
        unfold Rep at r2
        obtain ⟨Dx, e2, rfl⟩ := r2
        exact ⟨.ref Dx, .ref Dx, b, rfl, fun u hu => hu, ht.1 x b eb Dx e2, p.here hS (mk_bl b)⟩
      | ty n =>
        cases rep_ty r2
        exact ⟨.ty n, .type n, b, rfl, fun u hu => hu, ht.2.1 n b eb, p.here hS (mk_bl b)⟩
      | _ => rw [ht.2.2 _ (fun x z => by cases z) (fun n z => by cases z)] at eb; cases eb
    · exact p.elim
  · exact p.elim
end

/-! ### l.count(x) of plain data -/
def fCount (x y : PV) (S : Sto) : Res PV := match toDS x S, toD y with
  | some (.list ds), some d => if PyData.plainAll ds = true ∧ d.plain = true ∧ d.depth ≤ 9 then .ok (.int ((ds.countP fun z => PyData.eqv z d : Nat) : Int)) S else .bad
  | _, _ => .bad
def rCountD (K : PySem.W.Frag) : V → List V → Hp → VK → Prop := fun x xs H Q => ∃ (a : Addr) (y : V) (d : PyData) (ds : List PyData), x = V.ref a ∧ xs = [y] ∧ Dp K H (V.ref a) (.list ds) ∧ Dp K H y d ∧
  PyData.plainAll ds = true ∧ d.plain = true ∧ d.depth ≤ 9 ∧ Q (.int ((ds.countP fun z => PyData.eqv z d : Nat) : Int)) H
theorem mt_countD {X : Cx} (hu : X.A.units + 65 < cLine) : MtR X "list.count" (rCountD X.K) := by
  intro pins s σ H x xs v us Q I rx rxs h
  obtain ⟨a, y, d, ds, rfl, rfl, hl, hy, h1, h2, h3, q⟩ := h
  cases rx
  cases rxs with
  | cons ry rt =>
    cases rt
    obtain ⟨bs, r1⟩ := Dp.reads I d y _ hy ry
    cases hl with
    | lst hs ha =>
      obtain ⟨its, rv, pl, hlen⟩ := I.list hs
      obtain ⟨as, h4⟩ := Dp.readsAll I ds _ its ha rv
      exact SeqAt.count_list_data pl.isList (by simpa using h4) r1 h1 h2 (by omega) ⟨.int _, H, I.tok _, ⟨_, rfl⟩, q⟩
def count1 (x : PV) (S : Sto) : List PV → Res PV
  | [y] => fCount x y S
  | _ => .bad
def dCount (d : EnP → Sto → Res PV) (dl : EnP → Sto → Res (List PV)) : EnP → Sto → Res PV := fun ρ S => (d ρ S).bind fun x S1 => if (lstOf x S1).isSome = true then (dl ρ S1).bind fun ys S2 => count1 x S2 ys else .bad
theorem type_list_count : typeOf (.builtin "list.count") = pure (.type "method_descriptor") := by show builtinType "list.count" = _; first | rfl | kernel_rfl
section
variable {X : Cx} {T : Tb} {W : WX} {o e : Expr} {es : List Expr} {d : EnP → Sto → Res PV} {dl : EnP → Sto → Res (List PV)} {apos cpos : Pos}
theorem ce_count (hu : X.A.units + 65 < cLine) (ho : CE X T W o d) (ha : CA X T W (e :: es) dl)
    (hbase : attributeBase o "count" X.env (eval o X.env) = eval o X.env := by rfl)
    (hfew : ((backTo cpos (starEach (e :: es) X.env)).all (fun x => !x.1) && (backToKw cpos (keywordEach [] X.env)).all (fun x => x.1.isSome)
      && decide ((e :: es).length + ([] : List Keyword).length + (if ([] : List Keyword).isEmpty then 0 else 1) < 30)) = true := by rfl)
    (hline : (apos.endLine == cpos.line) = true := by rfl) (hs : starEach (e :: es) X.env = (false, eval e X.env) :: starEach es X.env := by rfl) (hplain : (backTo cpos (starEach es X.env)).any (·.1) = false := by rfl) :
    CE X T W (.Call (.Attribute o "count" apos) (e :: es) [] cpos) (dCount d dl) :=
  pe_imp (pe_bm PySem.F.plainAttrs_list PySem.F.slot_list_count type_list_count (mt_countD hu) ho ha hbase hfew hline hs hplain) fun σ H Q ⟨ρ, S, m, hE, hS, p⟩ =>
    tr_bind (f := fun (x : PV) (ρ : EnP) (S1 : Sto) => if (lstOf x S1).isSome = true then (dl ρ S1).bind fun ys S2 => count1 x S2 ys else .bad) hE hS p fun x S1 m1 H1 w s1 hE1 hS1 hr1 p1 => by
      cases e0 : lstOf x S1 with
      | none => rw [e0] at p1; exact p1.elim
      | some xs0 =>
        rw [e0, if_pos (show (some xs0).isSome = true from rfl)] at p1
        obtain ⟨a, vs0, rfl, f1, _⟩ := lstOf_rep hS1 hr1 e0
        refine ⟨.inl ⟨rfl, vs0, f1⟩, tr_bind (f := fun (ys : List PV) (_ : EnP) (S2 : Sto) => count1 x S2 ys) hE1 hS1 p1 fun ys S2 m2 H2 ws s2 hE2 hS2 hr2 p2 => ?_⟩
        unfold count1 at p2
        split at p2
        · rename_i y
          obtain ⟨u, rfl, ru⟩ := one_rep hr2
          unfold fCount at p2
          split at p2
          · rename_i ds dd h1 h2
            split at p2
            · rename_i h
              exact ⟨a, u, dd, ds, rfl, rfl, dpS_of hS2 (hr1.step s2) h1, dp_of y u dd ru h2, h.1, h.2.1, h.2.2, p2.here hS2 (mk_int _)⟩
            · exact p2.elim
          · exact p2.elim
        · exact p2.elim
end
end Mi
end
section
set_option Elab.async false
set_option linter.all false
set_option maxRecDepth 100000
set_option maxHeartbeats 2000000
namespace Mi
open PySem PySem.Spec PyProof.Rows L2

/-! ### a lambda without parameters, handed to a def -/
theorem gm_bare {X : Cx} {T : Tb} (h : X.A.handled = none) (ht : T.lm = none) : Bare (gm X T) := by
  show Gm.mk X.K X.mg ⟨T.tabs, none⟩ none = Gm.mk X.K X.mg T X.A.handled
  rw [h, ← ht]
/-- what stays while it may be called: its names' values, its code -/
def lamI (g : Gm) (f c' : Addr) (q : Str) (ρ : EnP) (σ : L2.St) : LmI :=
  ⟨f, fun m H => RelE g m H ρ σ ∧ m.no c' ∧ H c' = some (LamX.CodeO c' q), fun m H m' H' e ⟨h1, h2, h3⟩ => by
    obtain ⟨k1, k2⟩ := e.keep c' _ h2 h3 (fun ps z => LamX.codeO_ne ps z)
    exact ⟨h1.emb e, k1, k2⟩⟩
def dAct (i : Nat) (C : Sto → Res PV) : EnP → Sto → Res PV := fun ρ S => match ρ[i]? with
  | some (some .lam) => C S
  | _ => .bad
theorem relS_as {g g' : Gm} {m : Mm} {S : Sto} {H : Hp} (e : g.bare = g'.bare) (h : RelS g m S H) : RelS g' m S H :=
  ⟨h.len, h.nd, h.exs, fun n xs q => by rw [← e]; exact h.at_ n xs q, by have := congrArg (fun z : Gm => z.T.tabs) e; exact this ▸ h.tab⟩
theorem repF_up {g : Gm} {m : Mm} {H : Hp} : ∀ {fs : List (Str × PV)} {ws : List (Str × V)}, RepF g.bare m H fs ws → RepF g m H fs ws
  | [], _, h => h
  | (f, x) :: r, _, h => by
    unfold RepF at h ⊢
    obtain ⟨v, us, e, h1, h2⟩ := h
    exact ⟨v, us, e, Rep.up x v h1, repF_up h2⟩
theorem excR_up {g : Gm} {m : Mm} {H : Hp} {c : Str} {fs : List (Str × PV)} {cls : Value} {dd : Option Addr} (h : ExcR g.bare m H c fs cls dd) : ExcR g m H c fs cls dd := by
  obtain ⟨C, h1, h2, h3, h4⟩ := h
  refine ⟨C, h1, h2, h3, fun n => ?_⟩
  obtain ⟨d, ws, e1, e2, e3⟩ := h4 n
  exact ⟨d, ws, e1, e2, repF_up e3⟩
/-- from the post of a wider place to that of a bare one -/
theorem post_bare {g : Gm} {W W' : WX} {σ σ' : L2.St} {m : Mm} {H : Hp} {Q : VK} {r : Res PV} (hW : ∀ c d H, W c d σ H → W' c d σ' H) (p : PostV g W σ m H Q r) : PostV g.bare W' σ' m H Q r := by
  cases r with
  | ok v S => exact fun m' H' w s h1 h2 => p m' H' w s (relS_as (g := g.bare) (g' := g) rfl h1) (Rep.up _ _ h2)
  | exc c fs S => exact fun m' H' cls dd s h1 h2 => hW _ _ _ (p m' H' cls dd s (relS_as (g := g.bare) (g' := g) rfl h1) (excR_up h2))
  | bad => exact p
section
variable {X : Cx} {T : Tb} {pins : List (Addr × Obj)} {σ : L2.St} {H : Hp} {s : Shared}
abbrev wT (T : Tb) (i : LmI) : Tb := ⟨T.tabs, some i⟩
/-- x() in the def that got it -/
theorem lam_act {Eg : XK} {Ng : List Str} {qg : Str} {sg : Scope} {g f c' : Addr} {cdg pm ctv : Value} {params : Arguments} {body : Expr} {scope : Scope} {k i : Nat} {a : Str} {pn : List (Addr × Obj)} {xe : Value → Shared → Prop} {W : WX} {p1 p2 : Pos} {ρ : EnP} {db : EnP → Sto → Res PV}
    (I : Inv X pins σ H s) (L : LamX.LamS X.env.scope scope) (hX : X.A.handled = none) (hTl : T.lm = none) (hgX : X.A.guards = some [])
    (hf : s.heap.get? f = some (PySem.W.kla_obj "<lambda>" (X.env.qual ++ "<lambda>") params body scope (cloFrom X.env.cells scope.names []) pm c' ctv)) (hfn : H f = none) (hfr : f ∉ frs X.stack)
    (hbind : bindArgs (PySem.W.kla_fn "<lambda>" (X.env.qual ++ "<lambda>") params body scope (cloFrom X.env.cells scope.names []) pm (.ref c') ctv) ⟨[], []⟩ = pure [])
    (tk : Takes (((wdOf X T).cx Ng qg sg g cdg X.A X.stack s H Eg).tr pn xe) W) (hr : Room (k + 1) (X.A.deeper (envOfC qg sg s.heap.objs.size g cdg)))
    (hbody : ∀ (A : Around) (outer : List Env) (s1 : Shared) (H1 : Hp) (E : XK), Room k (A.deeper (LamX.lamEnv X scope s1.heap.objs.size f c')) → A.guards = some [] → CE (LamX.lamCx X A outer s1 H1 E scope f c') T (fun c d _ H => E c d H) body db)
    (hN : Ng[i]? = some a) (hv : Vis sg a) (hd : (a == ("__debug__" : Str)) = false := by decide) (hcd : (a == ("__classdict__" : Str)) = false := by decide) :
    CE (((wdOf X T).cx Ng qg sg g cdg X.A X.stack s H Eg).tr pn xe) (wT T (lamI (gm X T) f c' (X.env.qual ++ "<lambda>") ρ σ)) W (.Call (.Name a p1) [] [] p2) (dAct i fun S => db ρ S) := by
  refine ⟨fun pz sz σz Hz Q Iz ⟨ρz, S, m, hE, hS, p⟩ => ?_⟩
  unfold dAct at p
  split at p
  case h_2 => exact p.elim
  rename_i ei
  obtain ⟨w, ew, rw_⟩ := hE.at_ i _ ei
  unfold Rep at rw_
  obtain ⟨j, ej, rfl, hΦ⟩ := rw_
  cases ej
  obtain ⟨hEx, hno, hco⟩ := hΦ
  refine wpAny_Call_Name_kw (thn ((pe_var (pos := p1) (i := i) hN hv hd hcd).run pz sz σz Hz (fun v H1 => v = .ref f ∧ H1 = Hz) Iz ⟨.ref f, ew, rfl, rfl⟩) fun u s1 ⟨v, H1, I1, r1, q1, q2⟩ => ?_)
  rw [q1] at r1
  rw [q2] at I1
  obtain rfl : u = Value.ref f := r1
  have here : s1.heap.get? f = some (PySem.W.kla_obj "<lambda>" (X.env.qual ++ "<lambda>") params body scope (cloFrom X.env.cells scope.names []) pm c' ctv) := I1.base.keep f _ hf hfn hfr (fun z => nomatch (show f ∈ ([] : List Addr) from z))
  have un : Un (frs X.stack) [] H Hz s.heap s1.heap := I1.base
  obtain ⟨⟨oc, us, t, hoc, hdc, hvc⟩, _, _⟩ := I1.hok c' _ hco
  have hAd : (X.A.deeper (envOfC qg sg s.heap.objs.size g cdg)).handled = none := hX
  have pb : PostV (gm X T) (fun c d _ H => W c d σz H) σ m Hz Q (db ρ S) := by
    have q := post_bare (W' := fun c d _ H => W c d σz H) (σ' := σ) (fun _ _ _ h => h) p
    rw [← gm_bare hX hTl]
    exact q
  refine PySem.W.callWith_F0 ⟨_, _, _, _, here⟩ (wpAny_call (codeAny_mono (R := CR (L2.CX X.prog X.w) (envOfC qg sg s.heap.objs.size g cdg :: X.stack) X.prog X.w Hz s1 Q (fun c d H => W c d σz H)) ?_ fun r s' hq => ?_))
  · refine PySem.W.kla_callFunE hr.depth here rfl L.co L.gen rfl ⟨c', oc, us, t, rfl, hoc, hdc, hvc⟩ ?_
    rw [List.append_nil, hbind]
    refine wpAny_pure (wpAny_newFunctionEnv (fun y hy => (L.own y hy).2) (fun y hy => absurd hy (by simp)) (fun h₁ hns hsb => ⟨I1.nolimit.fresh _ hsb, ?_⟩) L.kind)
    show codeAny _ _ (.expr body (LamX.lamEnv X scope s1.heap.objs.size f c')) _ _
    have J := LamX.lam_start2 (E := fun c d H => W c d σz H) (f := f) (c' := c') (tk := s1.toks + ([] : List (Str × Value)).length) I L I1.env0 hAd un hns fun b o e => hsb.extBut b o (Nat.ne_of_lt (Heap.lt_size e)) (Heap.get?_push_of_some _ e)
    have hb := hbody _ (envOfC qg sg s.heap.objs.size g cdg :: X.stack) s1 Hz (fun c d H => W c d σz H) (hr.deeper _) hgX
    have eg : gm X T = gm (LamX.lamCx X (X.A.deeper (envOfC qg sg s.heap.objs.size g cdg)) (envOfC qg sg s.heap.objs.size g cdg :: X.stack) s1 Hz (fun c d H => W c d σz H) scope f c') T := rfl
    refine PySem.W.kla_codeExpr (wpAny_mono (hb.run [] _ σ Hz Q J ⟨ρ, S, m, hEx, ?_, pb⟩) (fun v s' hq => ?_) fun e s' hq => hq)
    · exact relS_as (by show Gm.bare _ = Gm.bare _; rfl) hS
    · obtain ⟨w', H', J', rv, q⟩ := hq
      exact ⟨w', H', J'.os, J'.bare, J'.base, J'.hok, rv, q⟩
  · cases r with
    | error e => exact tk e s' (XE.of_call I1 (fun _ _ _ h => h) hq)
    | ok fl =>
      cases fl with
      | ret u => exact I1.after hq
      | _ => exact False.elim hq
end
/-! ### the def that gets it -/
def cleanR : Res PV → Res PV
  | .ok v S => if flatP v = true then .ok v S else .bad
  | .exc c [] S => .exc c [] S
  | _ => .bad
structure FL (Z : Wd) (k : Nat) (x : Str) (G : (Sto → Res PV) → Sto → Res PV) : Prop where
  ex : ∃ (g : Addr) (st : Stmt) (cdv : Value) (N : List Str) (a : Str) (d : (Sto → Res PV) → EnP → Sto → SR), Z.mg x = some (.ref g) ∧ PySem.W.keepIn Z.K (.ref g) = true ∧ FunC Z.K x st g cdv ∧ FnScope N [a] (defScope st) ∧ BindC x st [a] ∧
    N[0]? = some a ∧ Vis (defScope st) a ∧ (a == ("__debug__" : Str)) = false ∧ (a == ("__classdict__" : Str)) = false ∧ (∀ C S, G C S = cleanR (runF 1 N.length (d C) [.lam] S)) ∧
    ∀ (i : LmI) (C : Sto → Res PV) (A : Around) (outer : List Env) (s : Shared) (H : Hp) (E : XK), Room k (A.deeper (envOfC x (defScope st) s.heap.objs.size g cdv)) → A.guards = some [] →
      (∀ (pn : List (Addr × Obj)) (xe : Value → Shared → Prop) (W : WX) (p1 p2 : Pos), Takes ((Z.cx N x (defScope st) g cdv A outer s H E).tr pn xe) W → CE ((Z.cx N x (defScope st) g cdv A outer s H E).tr pn xe) (wT Z.T i) W (.Call (.Name a p1) [] [] p2) (dAct 0 C)) →
      CSs (Z.cx N x (defScope st) g cdv A outer s H E) (wT Z.T i) (fun c d _ H => E c d H) (defBody st) (d C)
theorem step_extN {m : Mm} {H H1 : Hp} (e : LamX.ExtN H H1) : Step m H m H1 :=
  ⟨⟨[], by simp⟩, fun _ h => h, fun a h1 h2 => absurd h1 h2, fun a h1 h2 => absurd h1 h2, fun a o _ q n => e a o q n, fun a xs q => e a _ q (fun ps z => by cases z), fun a o u q => e a _ q (fun ps z => by cases z)⟩
theorem relS_extN {g : Gm} {m : Mm} {S : Sto} {H H1 : Hp} (h : RelS g m S H) (e : LamX.ExtN H H1) (t : LamX.Tabs g.T.tabs H1) : RelS g m S H1 :=
  ⟨h.len, h.nd, fun a ha => ⟨(h.exs a ha).1, (h.exs a ha).2.imp fun vs q => e a _ q nt_lst⟩, fun n xs q => by
    obtain ⟨a, vs, e1, e2, e3⟩ := h.at_ n xs q
    exact ⟨a, vs, e1, e a _ e2 nt_lst, RepL.step (step_extN e) _ _ e3⟩, t⟩
/-- back to the place of the call: what came is flat, or an error without fields -/
theorem post_wide {X Y : Cx} {T : Tb} {i : LmI} {W W' : WX} {σ σ' : L2.St} {m : Mm} {H : Hp} {Q : VK} {r : Res PV} (eK : Y.K = X.K) (eM : Y.mg = X.mg) (hb : Bare (gm X T)) (hW : ∀ c d H, W c d σ H → W' c d σ' H) (p : PostV (gm X T) W σ m H Q (cleanR r)) : PostV (gm Y (wT T i)) W' σ' m H Q r := by
  have eb : (gm Y (wT T i)).bare = (gm X T).bare := by
    show Gm.mk Y.K Y.mg _ _ = Gm.mk X.K X.mg _ _
    rw [eK, eM]
  cases r with
  | ok v S =>
    simp only [cleanR] at p
    by_cases hf : flatP v = true
    · rw [if_pos hf] at p
      exact fun m' H' w s h1 h2 => p m' H' w s (relS_as eb h1) (flat_any hf h2)
    · rw [if_neg hf] at p; exact p.elim
  | exc c fs S =>
    cases fs with
    | nil =>
      intro m' H' cls dd s h1 ⟨C, k1, k2, k3, k4⟩
      exact hW _ _ _ (p m' H' cls dd s (relS_as eb h1) ⟨C, by show X.mg c = _; rw [← eM]; exact k1, k2, k3, fun n => absurd rfl n⟩)
    | cons f r => exact p.elim
  | bad => exact p.elim
section
variable {X : Cx} {T : Tb} {W : WX}
theorem ce_lam {x : Str} {G : (Sto → Res PV) → Sto → Res PV} {kF kl j : Nat} {c P : Addr} {params : Arguments} {body : Expr} {scope : Scope} {p lpos pos : Pos} {db : EnP → Sto → Res PV} (F : FL (wdOf X T) kF x G) (Cx_ : Ctx X j W) (hk1 : kF ≤ kl + 1) (hk2 : kl + 2 ≤ j) (hTl : T.lm = none)
    (hg : Gl X x) (TB : LamX.TabB X.base X.mg c P) (hcode : X.env.code = .ref c) (hmT : (P, X.env.qual ++ "<lambda>") ∈ T.tabs) (hu : ∀ p ∈ T.tabs, p.1 = P → p.2 = X.env.qual ++ "<lambda>") (L : LamX.LamS X.env.scope scope) (hdef : defaultsOf params X.env = ([], []))
    (hbind : ∀ (q : Str) (cl : List (Str × Addr)) (pm cv ctv : Value), bindArgs (PySem.W.kla_fn "<lambda>" q params body scope cl pm cv ctv) ⟨[], []⟩ = pure [])
    (hbody : ∀ (A : Around) (outer : List Env) (s1 : Shared) (H1 : Hp) (E : XK) (f c' : Addr), Room kl (A.deeper (LamX.lamEnv X scope s1.heap.objs.size f c')) → A.guards = some [] → CE (LamX.lamCx X A outer s1 H1 E scope f c') T (fun c d _ H => E c d H) body db)
    (hdb : (x == ("__debug__" : Str)) = false := by decide) : CE X T W (.Call (.Name x p) [.Lambda params body scope lpos] [] pos) (fun ρ S => G (fun S => db ρ S) S) := by
  obtain ⟨g, st, cdv, N, a, d, hm, hk, FC_, Sc, hbd, hN0, hva, hd1, hd2, hG, hB⟩ := F.ex
  refine ⟨fun pins s σ H Q I ⟨ρ, S, m, hE, hS, q⟩ => ?_⟩
  refine wpAny_Call_Name_kw (ld_glob I hg hm ?_ hdb)
  refine PySem.W.callWith_K (h₀ := X.base) I.ok.mod.kin hk ?_ (by rfl) (by rfl)
  show wpAny _ _ (spliced ((false, eval (.Lambda params body scope lpos) X.env) :: backTo pos (starEach [] X.env))) _ _ s
  refine Calls.spliced_cons (LamX.lam_make2 I TB hcode hmT hu hS.tab hdef (L.has I.ok) fun f c' pm' ctv H1 s' I1 eN T1 hf hfn hfr hco => Calls.spliced_nil ⟨I1.kIn, ?_⟩)
  have hS1 := relS_extN hS eN T1
  have st1 : Step m H m H1 := step_extN eN
  have hE1 := hE.step st1
  have nlst : ∀ vs, H1 c' ≠ some (HO.lst vs) := fun vs e => by
    rw [hco] at e
    unfold LamX.CodeO at e
    cases e
  have nc : m.no c' := by
    refine ⟨fun z => ?_, fun z => ?_⟩
    · obtain ⟨vs, e⟩ := hS1.tracked z
      exact nlst vs e
    · obtain ⟨_, vs, e⟩ := hS1.exs c' z
      exact nlst vs e
  have hX := Cx_.room.hd
  have hbr : Bare (gm X T) := gm_bare hX hTl
  have q1 : PostV (gm X T) W σ m H1 Q (cleanR (runF 1 N.length (d fun S => db ρ S) [.lam] S)) := by
    have q0 : PostV (gm X T) W σ m H1 Q (G (fun S => db ρ S) S) := PostR.step st1 q
    rw [hG] at q0
    exact q0
  let i : LmI := lamI (gm X T) f c' (X.env.qual ++ "<lambda>") ρ σ
  let Y : Cx := (wdOf X T).cx N x (defScope st) g cdv X.A X.stack s' H1 (fun c d H => W c d σ H)
  have q2 : PostV (gm Y (wT T i)) (fun c d _ H => W c d σ H) (L2.start N [.ref f]) m H1 Q (endOf (d (fun S => db ρ S) (startP N.length [.lam]) S)) := by
    refine post_wide (X := X) (Y := Y) rfl rfl hbr (fun _ _ _ h => h) (σ := σ) (W := W) ?_
    have e : runF 1 N.length (d fun S => db ρ S) [.lam] S = endOf (d (fun S => db ρ S) (startP N.length [.lam]) S) := rfl
    rw [← e]
    exact q1
  have rx : RepL (gm Y (wT T i)) m H1 [.lam] [.ref f] := RepL.cons (by unfold Rep; exact ⟨i, rfl, rfl, hE1, nc, hco⟩) RepL.nil
  have hS2 : RelS (gm Y (wT T i)) m S H1 := relS_as (by show Gm.bare _ = Gm.bare _; rfl) hS1
  have hr2 : Room (kl + 2) X.A := Cx_.room.mono hk2
  have body1 := hB i (fun S => db ρ S) X.A X.stack s' H1 (fun c d H => W c d σ H) ((hr2.deeper _).mono hk1) Cx_.gd fun pn xe W' p1 p2 tk' => lam_act (p1 := p1) (p2 := p2) (ρ := ρ) (db := db) I1 L hX hTl Cx_.gd hf hfn hfr (hbind _ _ _ _ _) tk' (hr2.deeper _) (fun A outer s1 H2 E h1 h2 => hbody A outer s1 H2 E f c' h1 h2) hN0 hva hd1 hd2
  have run := run_body (k := kl + 1) (E := fun c d H => W c d σ H) (Q := Q) FC_ Sc hbd hr2 I1.env0 (show Vals [V.ref f] [Value.ref f] from .cons rfl .nil) rfl body1 ⟨_, S, m, start_rel rx, hS2, endOf_post (fun _ _ _ _ _ h => h) q2⟩
  refine wpAny_call (codeAny_mono run fun r s2 hq => ?_)
  cases r with
  | error e => exact Cx_.tk e s2 (XE.of_call I1 (fun _ _ _ h => h) hq)
  | ok fl =>
    cases fl with
    | ret u => exact I1.after hq
    | _ => exact False.elim hq
end
/-! ### a call of what a name holds: a def of the module -/
def dCallV (i : Nat) (tbl : Str → Option (List PV → Sto → Res PV)) (dl : EnP → Sto → Res (List PV)) : EnP → Sto → Res PV := fun ρ S => match ρ[i]? with
  | some (some (.glb x)) => (match tbl x with
    | some F => (dl ρ S).bind fun xs S1 => F xs S1
    | none => .bad)
  | _ => .bad
section
variable {X : Cx} {T : Tb} {W : WX}
theorem ce_callV {j k i : Nat} {y : Str} {p pos : Pos} {e : Expr} {es : List Expr} {dl : EnP → Sto → Res (List PV)} {tbl : Str → Option (List PV → Sto → Res PV)} (C : Ctx X k W) (c : ∀ x F, tbl x = some F → FC (wdOf X T) j x F) (hjk : j ≤ k) (hN : X.N[i]? = some y) (hv : Vis X.env.scope y) (ha : CA X T W (e :: es) dl)
    (hd : (y == ("__debug__" : Str)) = false := by decide) (hcd : (y == ("__classdict__" : Str)) = false := by decide)
    (he : starEach (e :: es) X.env = (false, eval e X.env) :: starEach es X.env := by rfl) (hpl : (backTo pos (starEach es X.env)).any (·.1) = false := by rfl) : CE X T W (.Call (.Name y p) (e :: es) [] pos) (dCallV i tbl dl) := by
  refine ⟨fun pins s σ H Q I ⟨ρ, S, m, hE, hS, q⟩ => ?_⟩
  unfold dCallV at q
  split at q
  case h_2 => exact q.elim
  rename_i x ei
  cases et : tbl x with
  | none => rw [et] at q; exact q.elim
  | some F =>
    rw [et] at q
    obtain ⟨w, ew, rw_⟩ := hE.at_ i _ ei
    unfold Rep at rw_
    obtain ⟨f0, hm0, rfl⟩ := rw_
    obtain ⟨f, hm, hk, fa⟩ := (c x F et).ex
    have ef : f0 = f := by
      have z := hm0.symm.trans hm
      cases z
      rfl
    subst ef
    refine wpAny_Call_Name_kw (thn ((pe_var (pos := p) (i := i) hN hv hd hcd).run pins s σ H (fun v H1 => v = .ref f0 ∧ H1 = H) I ⟨.ref f0, ew, rfl, rfl⟩) fun u s1 ⟨v, H1, I1, r1, q1, q2⟩ => ?_)
    rw [q1] at r1
    rw [q2] at I1
    obtain rfl : u = Value.ref f0 := r1
    refine PySem.W.callWith_K (h₀ := X.base) I1.ok.mod.kin hk (thn (ha.run pos pins s1 σ H (fun vs H1 => ∃ xs S1 m1, RelS (gm X T) m1 S1 H1 ∧ RepL (gm X T) m1 H1 xs vs ∧ PostV (gm X T) W σ m1 H1 Q (F xs S1)) I1 ?_) fun us s2 ⟨vs, H2, I2, r, xs, S1, m1, a1, a2, a3⟩ => ⟨I2.kIn, (fa.mono hjk).call C.room C.gd C.tk I2 r a1 a2 a3⟩) he hpl
    exact tr_bind (f := fun xs _ S1 => F xs S1) hE hS q fun xs S1 m1 H1 ws s1 hE1 hS1 hr1 p1 => ⟨xs, S1, m1, hS1, hr1, p1⟩
end
end Mi
end
section
set_option Elab.async false
set_option linter.all false
set_option maxRecDepth 100000
set_option maxHeartbeats 2000000
namespace Mi
open PySem PySem.Spec PyProof.Rows L2

/-! ### the end of a law -/
/-- a lambda's maker: its code object, the table of the code objects under it, the lambdas' name -/
structure Lt where
  code : Addr
  tab : Addr
  q : Str
abbrev tabOf (cs : List Lt) : Tb := ⟨cs.map fun c => (c.tab, c.q), none⟩
abbrev T0 : Obj := { cls := .none, data := .fields #[] }
/-- what is tracked when the law is called: the tables, and the script if it is no written one -/
def topH (K : PySem.W.Frag) (cs : List Lt) (a : Addr) (vs : List Value) (ns : List Int) : Hp := fun b =>
  if b ∈ cs.map (·.tab) then some (.tbl #[]) else if b = a ∧ K.lookup a = none then some (.frz { cls := .type "list", data := .seq vs.toArray } (.lst (ns.map V.int))) else none
/-- the state at the law's call, told to a def's promise -/
structure TopOk (P : Program) (w : World) (K : PySem.W.Frag) (mg : Str → Option Value) (cs : List Lt) (a : Addr) (ns : List Int) (base : Heap) (s₁ : Shared) (H : Hp) : Prop where
  env : Env0 P w K mg base callerA [] s₁ H
  tabs : ∀ c ∈ cs, H c.tab = some (.tbl #[])
  tabB : ∀ c ∈ cs, LamX.TabB base mg c.code c.tab
  scr : (∃ o, H a = some (HO.frz o (HO.lst (ns.map V.int)))) ∨ SqL K H0 a (ns.map V.int)
theorem run_top {P : Program} {w : World} {K : PySem.W.Frag} {mg mb : Str → Option Value} {fa a : Addr} {cs : List Lt} {s₁ : Shared} {vs : List Value} {ns : List Int}
    (KX : K.In s₁.heap) (hns : s₁.heap.Ns mainGlobals mg) (hb : s₁.heap.Ns builtinsNs mb) (hbb : ∀ x : Str, x ≠ "__name__" → mb x = bootBuiltins x) (hlim : s₁.heap.NoLimit) (hg : s₁.gens = #[])
    (hT : ∀ c ∈ cs, s₁.heap.get? c.tab = some T0) (nT : ∀ c ∈ cs, K.lookup c.tab = none) (hC : ∀ c ∈ cs, PySem.W.CodeHd s₁.heap c.code c.tab)
    (hbm : ∃ (bm : Addr) (ob : Obj), mg "__builtins__" = some (.ref bm) ∧ bm ≠ builtinsNs ∧ s₁.heap.get? bm = some ob ∧ ob.cls = .type "module" ∧ ob.dict = some builtinsNs ∧ ob.data = .plain)
    (ha : s₁.heap.get? a = some { cls := .type "list", data := .seq vs.toArray }) (hi : IntsAre vs ns) (hl : ns.length ≤ sizeLine)
    (F : ∀ base H, K.In base → base.Ns mainGlobals mg → TopOk P w K mg cs a ns base s₁ H → codeAny (model P w) callerA (.call (.ref fa) ⟨[.ref a], []⟩) (CR (L2.CX P w) [] P w H s₁ (fun v _ => v = .bl true) fun _ _ _ => False) s₁) :
    codeAny (model P w) callerA (.call (.ref fa) ⟨[.ref a], []⟩) (fun r s' => r = .ok (.ret (.bool true)) ∧ OldK s₁.heap s'.heap ∧ s'.os = s₁.os ∧ AllBare s'.gens) s₁ := by
  have rv := vals_ints hi
  have lenV := hi.length
  -- what stands at a tracked place
  have trk : ∀ b u, topH K cs a vs ns b = some u → (b ∈ cs.map (·.tab) ∧ u = .tbl #[] ∧ s₁.heap.get? b = some T0) ∨ (b = a ∧ K.lookup a = none ∧ b ∉ cs.map (·.tab) ∧ u = .frz { cls := .type "list", data := .seq vs.toArray } (.lst (ns.map V.int))) := fun b u e => by
    unfold topH at e
    by_cases hb : b ∈ cs.map (·.tab)
    · rw [if_pos hb] at e
      cases e
      obtain ⟨c, hc, rfl⟩ := List.mem_map.mp hb
      exact .inl ⟨hb, rfl, hT c hc⟩
    · rw [if_neg hb] at e
      by_cases h2 : b = a ∧ K.lookup a = none
      · rw [if_pos h2] at e
        cases e
        exact .inr ⟨h2.1, h2.2, hb, rfl⟩
      · rw [if_neg h2] at e
        cases e
  have tabAt : ∀ c ∈ cs, topH K cs a vs ns c.tab = some (.tbl #[]) := fun c hc => if_pos (List.mem_map.mpr ⟨c, hc, rfl⟩)
  have aT : a ∉ cs.map (·.tab) := fun z => by
    obtain ⟨c, hc, e⟩ := List.mem_map.mp z
    have q := hT c hc
    rw [e, ha] at q
    exact Data.noConfusion (congrArg Obj.data (Option.some.inj q))
  -- objects that are no lists and no empty records are not tracked
  have noT : ∀ {b : Addr} {o : Obj}, s₁.heap.get? b = some o → (∀ xs n, o.data ≠ .seq xs n) → o.data ≠ .fields #[] → topH K cs a vs ns b = none := fun {b o} e h1 h2 => by
    cases q : topH K cs a vs ns b with
    | none => rfl
    | some u =>
      rcases trk b u q with ⟨_, _, t⟩ | ⟨eb, _⟩
      · rw [e] at t
        cases t
        exact absurd rfl h2
      · rw [eb, ha] at e
        cases e
        exact absurd rfl (h1 _ _)
  have toBase : ∀ {b : Addr} {o : Obj}, s₁.heap.get? b = some o → topH K cs a vs ns b = none → (L2.hidT s₁.heap (topH K cs a vs ns)).get? b = some o := fun e n => L2.hidT_get e n
  have nsB : ∀ {b : Addr} {mm : Str → Option Value}, s₁.heap.Ns b mm → (L2.hidT s₁.heap (topH K cs a vs ns)).Ns b mm := fun {b mm} ⟨o, es, ep, e, d, r⟩ =>
    ⟨o, es, ep, toBase e (noT e (fun xs n z => by rw [d] at z; cases z) fun z => by rw [d] at z; cases z), d, r⟩
  have KB : K.In (L2.hidT s₁.heap (topH K cs a vs ns)) := fun b o e => toBase (KX b o e) (by
    cases q : topH K cs a vs ns b with
    | none => rfl
    | some u =>
      rcases trk b u q with ⟨m, _⟩ | ⟨eb, n, _⟩
      · obtain ⟨c, hc, e2⟩ := List.mem_map.mp m
        rw [← e2, nT c hc] at e
        cases e
      · rw [eb, n] at e
        cases e)
  have hok : HOk P w (topH K cs a vs ns) s₁.heap := fun b u q => by
    rcases trk b u q with ⟨_, rfl, t⟩ | ⟨eb, _, _, rfl⟩
    · exact t
    · rw [eb]
      exact ⟨ha, by rw [List.length_map]; exact hl, vs, _, rv, ha⟩
  have tb : ∀ c ∈ cs, LamX.TabB (L2.hidT s₁.heap (topH K cs a vs ns)) mg c.code c.tab := fun c hc => by
    refine ⟨?_, ?_, fun z => ?_⟩
    · obtain ⟨o, us, file, tf, flags, tg, inF, text, tt, e1, r1, r2, r3, rest⟩ := hC c hc
      refine ⟨o, us, file, tf, flags, tg, inF, text, tt, toBase e1 (noT e1 (fun xs n z => by rw [r2] at z; cases z) fun z => ?_), r1, r2, r3, rest⟩
      rw [r2] at z
      cases z
      exact absurd r3 (by simp)
    · obtain ⟨bm, ob, b1, b2, b3, b4, b5, b6⟩ := hbm
      refine ⟨bm, ob, b1, b2, fun q => ?_, fun q => ?_, toBase b3 (noT b3 (fun xs n z => by rw [b6] at z; cases z) fun z => by rw [b6] at z; cases z), b4, b5, b6⟩
      · obtain ⟨o, es, ep, e, hd, _⟩ := hns
        rw [q, e] at b3
        cases b3
        rw [hd] at b6
        cases b6
      · rw [q, hT c hc] at b3
        cases b3
        cases b6
    · obtain ⟨o, es, ep, e, hd, _⟩ := hns
      rw [z, hT c hc] at e
      cases e
      cases hd
  have e0 : Env0 P w K mg (L2.hidT s₁.heap (topH K cs a vs ns)) callerA [] s₁ (topH K cs a vs ns) :=
    ⟨rfl, ⟨KB, nsB hns, ⟨mb, nsB hb, hbb⟩, let ⟨mc, h1, h2⟩ := hlim; ⟨mc, nsB h1, h2⟩⟩, fun b o e => L2.of_hidT e, Nat.le_of_eq (L2.hidT_size _ _), trivial, fun b hx => absurd (show b ∈ ([] : List Addr) from hx) (by simp), hok, .of_eq hg⟩
  have scr : (∃ o, topH K cs a vs ns a = some (HO.frz o (HO.lst (ns.map V.int)))) ∨ SqL K H0 a (ns.map V.int) := by
    cases hk : K.lookup a with
    | none => exact .inl ⟨_, (if_neg aT).trans (if_pos ⟨rfl, hk⟩)⟩
    | some o =>
      have e := KX a o hk
      rw [ha] at e
      cases e
      exact .inr (.inr ⟨_, vs.toArray, _, hk, rfl, rfl, rfl, by rw [List.size_toArray, lenV]; exact hl, by simpa using rv⟩)
  refine codeAny_mono (F _ _ KB (nsB hns) ⟨e0, tabAt, tb, scr⟩) fun r s' h => ?_
  cases r with
  | error e =>
    obtain ⟨_, _, _, _, _, _, _, _, _, _, _, _, z⟩ := h
    exact z.elim
  | ok fl =>
    cases fl with
    | ret u =>
      obtain ⟨v, H', os, bare, un, hok', r', q⟩ := h
      obtain rfl : v = .bl true := q
      obtain rfl : u = Value.bool true := r'
      have old : ∀ b o, b ∉ cs.map (·.tab) → s₁.heap.get? b = some o → s'.heap.get? b = some o := fun b o nb e => by
        cases q : topH K cs a vs ns b with
        | none => exact un.keep b o e q (fun z => absurd (show b ∈ ([] : List Addr) from z) (by simp)) (by simp)
        | some u =>
          rcases trk b u q with ⟨m, _⟩ | ⟨eb, _, _, rfl⟩
          · exact absurd m nb
          · obtain ⟨e2, _⟩ := hok' b _ (un.frzs b _ _ q)
            rw [eb, ha] at e
            cases e
            exact e2
      have more : ∀ c ∈ cs, ∃ xs : Array Value, s'.heap.get? c.tab = some { cls := .none, data := .fields xs } := fun c hc => by
        obtain ⟨xs, z⟩ := un.tbls c.tab #[] (tabAt c hc)
        exact ⟨_, hok' c.tab _ z⟩
      refine ⟨rfl, ⟨fun b o e => ?_, fun b o e => ?_⟩, os, bare⟩
      · by_cases hm : b ∈ cs.map (·.tab)
        · obtain ⟨c, hc, ec⟩ := List.mem_map.mp hm
          subst ec
          obtain ⟨xs, hx⟩ := more c hc
          rw [hT c hc] at e
          cases e
          exact .inr (.inl ⟨((hC c hc).tab (hT c hc)).isCodeTable, rfl, #[], xs, rfl, by rw [Array.empty_append]; exact hx⟩)
        · exact .inl (old b o hm e)
      · by_cases hm : b ∈ cs.map (·.tab)
        · obtain ⟨c, hc, ec⟩ := List.mem_map.mp hm
          subst ec
          obtain ⟨xs, hx⟩ := more c hc
          exact ⟨_, hx⟩
        · exact ⟨o, old b o hm e⟩
    | _ => exact False.elim h
/-- a def's promise on the script -/
theorem fa_top {P : Program} {w : World} {K : PySem.W.Frag} {mg : Str → Option Value} {cs : List Lt} {a fa : Addr} {ns : List Int} {base : Heap} {s₁ : Shared} {H : Hp} {k : Nat} {F : List PV → Sto → Res PV} {S' : Sto} (t : TopOk P w K mg cs a ns base s₁ H) (hr : Room k callerA)
    (fa_ : FA ⟨P, w, K, mg, base, tabOf cs⟩ k fa F) (e : F [.fl (ns.map .int)] [] = .ok (.bl true) S') :
    codeAny (model P w) callerA (.call (.ref fa) ⟨[.ref a], []⟩) (CR (L2.CX P w) [] P w H s₁ (fun v _ => v = .bl true) fun _ _ _ => False) s₁ := by
  have lits : ∀ l : List Int, RepL (⟨K, mg, tabOf cs, none⟩ : Gm) ⟨[], []⟩ H (l.map PV.int) (l.map V.int) := fun l => by
    induction l with
    | nil => exact RepL.nil
    | cons i r ih => exact RepL.cons (mk_int i) ih
  refine fa_ callerA [] s₁ H [.ref a] [.ref a] [.fl (ns.map .int)] [] ⟨[], []⟩ _ _ hr rfl t.env (.cons rfl .nil) ⟨rfl, List.nodup_nil, fun b hb => absurd hb (by simp), fun n xs q => by simp at q, fun p hp => ?_⟩ (RepL.cons ?_ RepL.nil) ?_
  · obtain ⟨c, hc, rfl⟩ := List.mem_map.mp hp
    exact LamX.TabS.nil (t.tabs c hc)
  · unfold Rep
    exact ⟨a, ns.map V.int, rfl, t.scr, lits ns⟩
  · rw [e]
    exact fun m' H' v s h1 h2 => rep_bl h2
/-- THE END: what a law's head leaves, and the law's def as a function of the script -/
theorem walk_end {l : PySem.W.OpenLaw} {n k : Nat} {q : Program} {loose : List Str} {XP : (Str → Option Value) → Heap → Prop} {YP : World → Heap → Prop} {d : DefRec} {K : Params → PySem.W.Frag}
    (hn : l.most = some n) (hn2 : n ≤ sizeLine) (hdf : d.params.defaults = []) (hr : Room k callerA) (hY : ∀ (w : World) (h : Heap), YP w h → (K w.params).In h)
    (F : ∀ (w : World) (mg : Str → Option Value) (fa : Addr) (h : Heap), YP w h → XP mg h → (K w.params).In h → h.Ns mainGlobals mg → mg d.name = some (.ref fa) →
      ∃ (cs : List Lt) (Ff : List PV → Sto → Res PV), (∀ c ∈ cs, h.get? c.tab = some T0) ∧ (∀ c ∈ cs, (K w.params).lookup c.tab = none) ∧ (∀ c ∈ cs, PySem.W.CodeHd h c.code c.tab) ∧
        (∀ base : Heap, (K w.params).In base → base.Ns mainGlobals mg → (∀ c ∈ cs, LamX.TabB base mg c.code c.tab) → FA ⟨l.prog, w, K w.params, mg, base, tabOf cs⟩ k fa Ff) ∧
        ∀ ns : List Int, ns.length ≤ n → (∀ z ∈ ns, Builtin.Int.intBits z ≤ 1048576) → ∃ S', Ff [.fl (ns.map .int)] [] = .ok (.bl true) S') :
    PySem.W.WalkO q loose XP YP l.row.toRowW d [] (fun f vs => PySem.call f vs) := by
  refine Att.attach_callB hn hdf fun w s₀ s₁ mg mb fa o pm cd doc a vs ns G Y ho hd hcd hmg hobj hints hlen hbits hg => ?_
  obtain ⟨cs, Ff, h1, h2, h3, h4, h5⟩ := F w mg fa _ Y G.X (hY w _ Y) G.T.g hmg
  obtain ⟨S', e⟩ := h5 ns hlen hbits
  exact run_top (hY w _ Y) G.T.g G.T.b G.T.builtins G.T.nolimit hg h1 h2 h3 G.T.bmain hobj hints (Nat.le_trans hlen hn2) fun base H kb nb t => fa_top t hr (h4 base kb nb t.tabB) e
end Mi
end
section
set_option Elab.async false
set_option linter.all false
set_option maxRecDepth 100000
set_option maxHeartbeats 2000000
namespace Mi
open PySem PySem.Spec PyProof.Rows L2

/-! ### what is said of a program -/
/-- built-in names that the module leaves as they are -/
def biNames : List Str := ["len", "isinstance", "abs", "int", "tuple", "list", "str", "bool", "all", "any", "zip", "range", "repr", "max", "min", "enumerate", "sorted", "sum", "ValueError", "dict", "set", "reversed"]
structure Bi (mg : Str → Option Value) : Prop where
  get : ∀ {x : Str}, x ∈ biNames → mg x = none
/-- a def of the module -/
structure DefOk (Z : Wd) (x : Str) (st : Stmt) : Prop where
  ex : ∃ f cdv, Z.mg x = some (.ref f) ∧ PySem.W.keepIn Z.K (.ref f) = true ∧ FunC Z.K x st f cdv
/-- .. whose code object stands at c -/
structure DefOkC (Z : Wd) (x : Str) (st : Stmt) (c : Addr) : Prop where
  ex : ∃ f, Z.mg x = some (.ref f) ∧ PySem.W.keepIn Z.K (.ref f) = true ∧ FunC Z.K x st f (.ref c)
theorem DefOk.fc {Z : Wd} {k : Nat} {x : Str} {st : Stmt} {N ps : List Str} {d : EnP → Sto → SR} (D : DefOk Z x st) (Sc : FnScope N ps (defScope st)) (hb : BindC x st ps)
    (body : ∀ (f : Addr) (cdv : Value) (A : Around) (outer : List Env) (s : Shared) (H : Hp) (E : XK), Ctx (Z.cx N x (defScope st) f cdv A outer s H E) k (fun c d _ H => E c d H) → CSs (Z.cx N x (defScope st) f cdv A outer s H E) Z.T (fun c d _ H => E c d H) (defBody st) d) :
    FC Z (k + 1) x (runF ps.length N.length d) := by
  obtain ⟨f, cdv, h1, h2, h3⟩ := D.ex
  exact ⟨f, h1, h2, fa_of h3 Sc hb fun A outer s H E hr hg => body f cdv A outer s H E (ctx_of hr hg)⟩
theorem DefOkC.fc {Z : Wd} {k : Nat} {x : Str} {st : Stmt} {c : Addr} {N ps : List Str} {d : EnP → Sto → SR} (D : DefOkC Z x st c) (Sc : FnScope N ps (defScope st)) (hb : BindC x st ps)
    (body : ∀ (f : Addr) (A : Around) (outer : List Env) (s : Shared) (H : Hp) (E : XK), Ctx (Z.cx N x (defScope st) f (.ref c) A outer s H E) k (fun c d _ H => E c d H) → CSs (Z.cx N x (defScope st) f (.ref c) A outer s H E) Z.T (fun c d _ H => E c d H) (defBody st) d) :
    FC Z (k + 1) x (runF ps.length N.length d) := by
  obtain ⟨f, h1, h2, h3⟩ := D.ex
  exact ⟨f, h1, h2, fa_of h3 Sc hb fun A outer s H E hr hg => body f A outer s H E (ctx_of hr hg)⟩
def lamF (len : Nat) (d : (Sto → Res PV) → EnP → Sto → SR) : (Sto → Res PV) → Sto → Res PV := fun C S => cleanR (runF 1 len (d C) [.lam] S)
theorem DefOk.fl {Z : Wd} {k : Nat} {x a : Str} {st : Stmt} {N : List Str} {d : (Sto → Res PV) → EnP → Sto → SR} (D : DefOk Z x st) (Sc : FnScope N [a] (defScope st)) (hb : BindC x st [a]) (hN0 : N[0]? = some a) (hv : Vis (defScope st) a)
    (body : ∀ (i : LmI) (C : Sto → Res PV) (f : Addr) (cdv : Value) (A : Around) (outer : List Env) (s : Shared) (H : Hp) (E : XK), Ctx (Z.cx N x (defScope st) f cdv A outer s H E) k (fun c d _ H => E c d H) →
      (∀ (pn : List (Addr × Obj)) (xe : Value → Shared → Prop) (W : WX) (p1 p2 : Pos), Takes ((Z.cx N x (defScope st) f cdv A outer s H E).tr pn xe) W → CE ((Z.cx N x (defScope st) f cdv A outer s H E).tr pn xe) (wT Z.T i) W (.Call (.Name a p1) [] [] p2) (dAct 0 C)) →
      CSs (Z.cx N x (defScope st) f cdv A outer s H E) (wT Z.T i) (fun c d _ H => E c d H) (defBody st) (d C)) (hd1 : (a == ("__debug__" : Str)) = false := by decide) (hd2 : (a == ("__classdict__" : Str)) = false := by decide) : FL Z k x (lamF N.length d) := by
  obtain ⟨f, cdv, h1, h2, h3⟩ := D.ex
  exact ⟨f, st, cdv, N, a, d, h1, h2, h3, Sc, hb, hN0, hv, hd1, hd2, fun _ _ => rfl, fun i C A outer s H E hr hg act => body i C f cdv A outer s H E (ctx_of hr hg) act⟩
section
variable {X : Cx} {T : Tb} {W : WX} {k : Nat}
theorem Ctx.u (C : Ctx X k W) : X.A.units + 100 < cLine := by have := C.room.un; omega
theorem u64 (h : X.A.units + 100 < cLine) : X.A.units + 64 < cLine := by omega
theorem u65 (h : X.A.units + 100 < cLine) : X.A.units + 65 < cLine := by omega
theorem u80 (h : X.A.units + 100 < cLine) : X.A.units + 80 < cLine := by omega
theorem ctx_lam {A : Around} {outer : List Env} {s : Shared} {H : Hp} {E : XK} {scope : Scope} {f c' : Addr} (hr : Room k (A.deeper (LamX.lamEnv X scope s.heap.objs.size f c'))) (hg : A.guards = some []) : Ctx (LamX.lamCx X A outer s H E scope f c') k (fun c d _ H => E c d H) :=
  ⟨hr, hg, rfl, takes_of rfl rfl rfl rfl, passes_of rfl⟩
theorem ce_gi {x : Str} {i : Int} {pos : Pos} (hm : ∃ t, X.mg x = some (.int i t)) (hg : Gl X x) (hd : (x == ("__debug__" : Str)) = false := by decide) : CE X T W (.Name x pos) (dC (.int i)) := by
  obtain ⟨t, hm⟩ := hm
  exact ce_gint hg hm hd
theorem ce_gf {x : Str} {F : List PV → Sto → Res PV} {j : Nat} {pos : Pos} (c : FC (wdOf X T) j x F) (hg : Gl X x) (hd : (x == ("__debug__" : Str)) = false := by decide) : CE X T W (.Name x pos) (dC (.glb x)) := by
  obtain ⟨f, hm, _⟩ := c.ex
  exact ce_gfn hg hm hd
theorem ce_ge {x : Str} {pos : Pos} (c : EC X.K X.mg x) (hg : Gl X x) (hd : (x == ("__debug__" : Str)) = false := by decide) : CE X T W (.Name x pos) (dC (.glb x)) := by
  obtain ⟨f, hm, _⟩ := c.ex
  exact ce_gfn hg hm hd
abbrev sLe (a b : List Nat) : Bool := !decide (b < a)
abbrev sLt (a b : List Nat) : Bool := decide (a < b)
theorem sn_cmpS (f : List Nat → List Nat → Bool) : Snd (gm X T) (fun x y H Q => ∃ i j, x = .str i ∧ y = .str j ∧ Q (.bl (f i.cps.toList j.cps.toList)) H) (fCmpS f) := by
  intro W σ m S H x y v u Q hS rx ry p
  unfold fCmpS at p
  split at p
  · cases rep_str rx
    cases rep_str ry
    exact ⟨_, _, rfl, rfl, p.here hS (mk_bl _)⟩
  · exact p.elim
end
/-! the built-in names, one by one -/
section
variable {mg : Str → Option Value}
theorem Bi.b_len (B : Bi mg) : mg "len" = none := B.get (by decide)
theorem Bi.b_isinstance (B : Bi mg) : mg "isinstance" = none := B.get (by decide)
theorem Bi.b_abs (B : Bi mg) : mg "abs" = none := B.get (by decide)
theorem Bi.b_int (B : Bi mg) : mg "int" = none := B.get (by decide)
theorem Bi.b_tuple (B : Bi mg) : mg "tuple" = none := B.get (by decide)
theorem Bi.b_list (B : Bi mg) : mg "list" = none := B.get (by decide)
theorem Bi.b_str (B : Bi mg) : mg "str" = none := B.get (by decide)
theorem Bi.b_bool (B : Bi mg) : mg "bool" = none := B.get (by decide)
theorem Bi.b_all (B : Bi mg) : mg "all" = none := B.get (by decide)
theorem Bi.b_any (B : Bi mg) : mg "any" = none := B.get (by decide)
theorem Bi.b_zip (B : Bi mg) : mg "zip" = none := B.get (by decide)
theorem Bi.b_range (B : Bi mg) : mg "range" = none := B.get (by decide)
theorem Bi.b_repr (B : Bi mg) : mg "repr" = none := B.get (by decide)
theorem Bi.b_max (B : Bi mg) : mg "max" = none := B.get (by decide)
theorem Bi.b_min (B : Bi mg) : mg "min" = none := B.get (by decide)
theorem Bi.b_enumerate (B : Bi mg) : mg "enumerate" = none := B.get (by decide)
theorem Bi.b_sorted (B : Bi mg) : mg "sorted" = none := B.get (by decide)
theorem Bi.b_sum (B : Bi mg) : mg "sum" = none := B.get (by decide)
theorem Bi.b_ValueError (B : Bi mg) : mg "ValueError" = none := B.get (by decide)
end
/-! ### isinstance(error, C) -/
def isF (fs : List (Str × PV)) (isT : PV → Option Bool) : PV → Option Bool := fun t => if fs.isEmpty = true then isT t else none
theorem ce_isE {X : Cx} {T : Tb} {W : WX} {a D : Addr} {d : Option Addr} {oe : Obj} {pn : List (Addr × Obj)} {isT : PV → Option Bool} {e : Expr} {es : List Expr} {dl : EnP → Sto → Res (List PV)} {p pos : Pos} (h : (d = none ∧ ExcC X.K D ∧ IsT X.K X.mg D isT) ∨ ∀ t, isT t = none) (hz : Zc (.ref D) d oe) (hf : ∃ vs, oe.data = .fields vs)
    (hm : X.mg "isinstance" = none) (hg : Gl (X.suite a ((a, oe) :: pn)) "isinstance") (ha : CA (X.suite a ((a, oe) :: pn)) T W (e :: es) dl)
    (he : starEach (e :: es) (X.suite a ((a, oe) :: pn)).env = (false, eval e (X.suite a ((a, oe) :: pn)).env) :: starEach es (X.suite a ((a, oe) :: pn)).env := by rfl) (hpl : (backTo pos (starEach es (X.suite a ((a, oe) :: pn)).env)).any (·.1) = false := by rfl) :
    CE (X.suite a ((a, oe) :: pn)) T W (.Call (.Name "isinstance" p) (e :: es) [] pos) (dCB (fIsE isT) dl) := by
  rcases h with ⟨rfl, hx, ht⟩ | h
  · exact ce_callB (call_isE hx hz hf) (sl_isE ht) hg hm PyProof.Rows.boot_isinstance ha (by decide) (by decide) he hpl
  · refine ce_callB (r := fun _ _ _ => False) (fun _ _ _ _ _ _ _ _ _ z => z.elim) (fun W σ m S H xs vs Q hS r p => ?_) hg hm PyProof.Rows.boot_isinstance ha (by decide) (by decide) he hpl
    unfold fIsE at p
    split at p
    · rw [h] at p
      exact p.elim
    · exact p.elim
/-- {} -/
def dDict0 : EnP → Sto → Res PV := fun _ S => .ok (.nd [] []) S
theorem ce_dict0 {X : Cx} {T : Tb} {W : WX} {pos : Pos} : CE X T W (.Dict [] [] pos) dDict0 :=
  pe_imp pe_dnewK fun σ H Q ⟨ρ, S, m, hE, hS, p⟩ => fun a ha => by
    refine p m _ _ (step_new ha) (hS.new ha) ?_
    show Rep _ _ _ (.nd [] []) _
    unfold Rep
    exact ⟨a, [], rfl, hS.fresh ha, upd_same, rfl, RepL.nil⟩
/-! ### comprehensions, the block's place handed on -/
abbrev InBlkC (X : Cx) (k : Nat) (scope : Scope) (P : Cx → Prop) : Prop := ∀ (s : Shared) (H : Hp) (C : Addr) (cl : List (Str × Addr)) (fp : List Addr), Ctx (X.blk s H scope (compEnvC scope cl C X.env) fp) k W0 → P (X.blk s H scope (compEnvC scope cl C X.env) fp)
section
variable {X : Cx} {T : Tb} {W : WX} {k : Nat} {elt tg iter : Expr} {ifs : List Expr} {scope : Scope} {own : List (Str × Nat)} {pos spos : Pos} {g : TG} {di : EnP → Sto → Res (List PV)} {f : PV → EnP → Option EnP} {dt : EnP → Sto → Res Bool} {de : EnP → Sto → Res PV}
theorem ce_lcC (mt : Bool) (hb : mt = true → Bare (gm X T)) (C : Ctx X k W) (hN : X.N.Nodup) (hi : CI X T W tg iter di) (ok : BlkOk X.N X.env.scope scope own) (hg : InBlkC X k scope fun Y => PG Y tg g) (hf : TgC (gm X T) (own.map (·.2)) g f)
    (ht : InBlkC X k scope fun Y => PTs Y ifs (tb (gm X T) W0 dt)) (he : InBlkC X k scope fun Y => Mi.CE Y T W0 elt de) (hs : ∀ x, foldedSetIterable iter X.env x = pure x := by intro _; rfl) :
    Mi.CE X T W (.ListComp elt [⟨tg, iter, ifs, 0⟩] scope pos) (dLc mt di f dt de (own.map (·.2))) :=
  ce_lc mt hb C.calm hN hi ok (fun s H A cl fp => hg s H A cl fp C.blk) hf (fun s H A cl fp => ht s H A cl fp C.blk) (fun s H A cl fp => he s H A cl fp C.blk) hs
theorem cs_lcC (mt : Bool) (hb : mt = true → Bare (gm X T)) {i : Nat} {y : Str} {py : Pos} (C : Ctx X k W) (hN : X.N.Nodup) (hy : X.N[i]? = some y) (hyl : X.env.scope.names.lookup y = some .local)
    (hsw : swapsWith (.ListComp elt [⟨tg, iter, ifs, 0⟩] scope pos) (some (.Name y py)) spos.line X.env = pure true) (hi : CI X T W tg iter di) (ok : BlkOk X.N X.env.scope scope own) (hg : InBlkC X k scope fun Y => PG Y tg g) (hf : TgC (gm X T) (own.map (·.2)) g f)
    (ht : InBlkC X k scope fun Y => PTs Y ifs (tb (gm X T) W0 dt)) (he : InBlkC X k scope fun Y => Mi.CE Y T W0 elt de) (hs : ∀ x, foldedSetIterable iter X.env x = pure x := by intro _; rfl) :
    CS X T W (.Assign [.Name y py] (.ListComp elt [⟨tg, iter, ifs, 0⟩] scope pos) spos) (dSet i (dLc mt di f dt de (own.map (·.2)))) :=
  cs_lc mt hb C.calm hN hy hyl hsw hi ok (fun s H A cl fp => hg s H A cl fp C.blk) hf (fun s H A cl fp => ht s H A cl fp C.blk) (fun s H A cl fp => he s H A cl fp C.blk) hs
end
theorem FC.mono {Z : Wd} {j k : Nat} {x : Str} {F : List PV → Sto → Res PV} (h : FC Z j x F) (hjk : j ≤ k) : FC Z k x F := by
  obtain ⟨f, h1, h2, h3⟩ := h.ex
  exact ⟨f, h1, h2, h3.mono hjk⟩
end Mi
end
section
set_option Elab.async false
set_option linter.all false
set_option maxRecDepth 100000
set_option maxHeartbeats 2000000
namespace Mi
open PySem PySem.Spec PyProof.Rows L2

/-! ### errors, by tables -/
def catN (names : List Str) (c : Str) : Option Bool := if c ∈ names then some true else none
def isTab (P : List (Str × Str × Bool)) (names : List Str) (c : Str) : PV → Option Bool
  | .glb x => (P.find? fun p => p.1 == c && p.2.1 == x).map fun p => p.2.2
  | .ty n => if n = "ValueError" ∧ c ∈ names then some true else none
  | _ => none
section
variable {K : PySem.W.Frag} {mg : Str → Option Value} {P : List (Str × Str × Bool)} {names : List Str}
/-- the classes of errors, with their addresses -/
structure ErrA (K : PySem.W.Frag) (mg : Str → Option Value) (l : List (Str × Addr)) : Prop where
  at_ : ∀ p ∈ l, mg p.1 = some (.ref p.2)
theorem cat_mk {l : List (Str × Addr)} {CR : Addr} (hl : names = l.map (·.1)) (A : ErrA K mg l) (h : ∀ p ∈ l, PySem.W.exmOne K (.ref p.2) (.ref CR) = some true) : ∀ c b, catN names c = some b → ∀ C, mg c = some (.ref C) → PySem.W.exmOne K (.ref C) (.ref CR) = some b := fun c b e C hc => by
  unfold catN at e
  split at e
  · rename_i hm
    cases e
    rw [hl] at hm
    obtain ⟨p, hp, rfl⟩ := List.mem_map.mp hm
    have q := A.at_ p hp
    rw [hc] at q
    cases q
    exact h p hp
  · cases e
theorem isE_mk {l : List (Str × Addr)} (hl : names = l.map (·.1)) (A : ErrA K mg l) (hP1 : ∀ p ∈ P, p.1 ∈ names) (hx : ∀ p ∈ l, ExcC K p.2)
    (hk : ∀ p ∈ P, ∀ C D, (p.1, C) ∈ l → (p.2.1, D) ∈ l → PySem.W.kitOne K (.ref C) (.ref D) = some p.2.2) (hP2 : ∀ p ∈ P, p.2.1 ∈ names) (hv : ∀ p ∈ l, PySem.W.kitOne K (.ref p.2) (.type "ValueError") = some true) :
    ∀ c C fs (d : Option Addr), mg c = some (.ref C) → (fs = [] → d = none) → (d = none ∧ ExcC K C ∧ IsT K mg C (isF fs (isTab P names c))) ∨ ∀ t, isF fs (isTab P names c) t = none := by
  intro c C fs d hc hd
  cases fs with
  | cons f r => exact .inr fun t => rfl
  | nil =>
    have look : ∀ n, n ∈ names → ∀ A', mg n = some (.ref A') → (n, A') ∈ l := fun n hn A' hA => by
      rw [hl] at hn
      obtain ⟨p, hp, rfl⟩ := List.mem_map.mp hn
      have q := A.at_ p hp
      rw [hA] at q
      cases q
      exact hp
    by_cases hm : c ∈ names
    · refine .inl ⟨hd rfl, hx (c, C) (look c hm C hc), ⟨fun x b e D hD => ?_, fun n b e => ?_, fun t h1 h2 => ?_⟩⟩
      · have e : (P.find? fun p => p.1 == c && p.2.1 == x).map (fun p => p.2.2) = some b := e
        cases ef : P.find? fun p => p.1 == c && p.2.1 == x with
        | none => rw [ef] at e; cases e
        | some p =>
          rw [ef] at e
          cases e
          have hp := List.mem_of_find?_eq_some ef
          have h0 := List.find?_some ef
          simp only [Bool.and_eq_true, beq_iff_eq] at h0
          obtain ⟨h1, h2⟩ := h0
          subst h1 h2
          exact hk p hp C D (look _ hm C hc) (look _ (hP2 p hp) D hD)
      · have e : (if n = "ValueError" ∧ c ∈ names then some true else none) = some b := e
        split at e
        · rename_i h
          cases e
          rw [h.1]
          exact hv (c, C) (look c hm C hc)
        · cases e
      · cases t with
        | glb x => exact absurd rfl (h1 x)
        | ty n => exact absurd rfl (h2 n)
        | _ => rfl
    · refine .inr fun t => ?_
      cases t with
      | glb x =>
        show (P.find? fun p => p.1 == c && p.2.1 == x).map (fun p => p.2.2) = none
        have : (P.find? fun p => p.1 == c && p.2.1 == x) = none := List.find?_eq_none.mpr fun p hp q => by
          simp only [Bool.and_eq_true, beq_iff_eq] at q
          exact hm (q.1 ▸ hP1 p hp)
        rw [this]
        rfl
      | ty n =>
        show (if n = "ValueError" ∧ c ∈ names then some true else none) = none
        exact if_neg fun h => hm h.2
      | _ => rfl
end
/-! ### what the head's written part tells -/
section
variable {K : PySem.W.Frag} {mg : Str → Option Value} {h : Heap}
theorem bi_mk (X : K.In h) (G : h.Ns mainGlobals mg) (e : (biNames.all fun x => match PySem.W.nsIn K mainGlobals x with | some none => true | _ => false) = true) : Bi mg := ⟨fun {x} hx => by
  have q := List.all_eq_true.mp e x hx
  cases z : PySem.W.nsIn K mainGlobals x with
  | none => rw [z] at q; cases q
  | some v =>
    cases v with
    | none => exact PySem.W.mg_none_of X G z
    | some v => rw [z] at q; cases q⟩
theorem int_mk {x : Str} {i : Int} {t : Tok} (X : K.In h) (G : h.Ns mainGlobals mg) (e : PySem.W.nsIn K mainGlobals x = some (some (.int i t))) : ∃ t, mg x = some (.int i t) := ⟨t, PySem.W.mg_of X G e⟩
theorem loose_mk {p : Program} {x : Str} {i : Int} {lv : List (Str × PySem.W.WData)} (XX : PySem.W.XL p lv mg h) (hx : (x, PySem.W.WData.int i) ∈ lv) : ∃ t, mg x = some (.int i t) := by
  obtain ⟨v, e, r⟩ := XX.2.val _ hx
  cases r with
  | int => exact ⟨_, e⟩
theorem def_mk {P : Program} {w : World} {base : Heap} {T : Tb} {x : Str} {st : Stmt} {f : Addr} {oc : Value} {od an : Option Addr} {osl : Array (Option Value)} {kV doc pm cdv ct : Value} (X : K.In h) (G : h.Ns mainGlobals mg)
    (a : PySem.W.nsIn K mainGlobals x = some (some (.ref f))) (l : K.lookup f = some ⟨oc, od, .func (PySem.W.fnOf x x (defArgs st) (defBody st) (defScope st) .none kV doc pm an cdv ct), osl⟩) (c : PySem.W.codeIn K cdv x = true) (k : PySem.W.keepIn K (.ref f) = true) :
    DefOk ⟨P, w, K, mg, base, T⟩ x st := ⟨f, cdv, PySem.W.mg_of X G a, k, ⟨⟨oc, od, kV, doc, pm, an, ct, osl, l⟩, c⟩⟩
theorem defC_mk {P : Program} {w : World} {base : Heap} {T : Tb} {x : Str} {st : Stmt} {f cA : Addr} {oc : Value} {od an : Option Addr} {osl : Array (Option Value)} {kV doc pm ct : Value} (X : K.In h) (G : h.Ns mainGlobals mg)
    (a : PySem.W.nsIn K mainGlobals x = some (some (.ref f))) (l : K.lookup f = some ⟨oc, od, .func (PySem.W.fnOf x x (defArgs st) (defBody st) (defScope st) .none kV doc pm an (.ref cA) ct), osl⟩) (c : PySem.W.codeIn K (.ref cA) x = true) (k : PySem.W.keepIn K (.ref f) = true) :
    DefOkC ⟨P, w, K, mg, base, T⟩ x st cA := ⟨f, PySem.W.mg_of X G a, k, ⟨⟨oc, od, kV, doc, pm, an, ct, osl, l⟩, c⟩⟩
theorem ec_mk {x : Str} {C : Addr} (X : K.In h) (G : h.Ns mainGlobals mg) (a : PySem.W.nsIn K mainGlobals x = some (some (.ref C))) (k : PySem.W.keepIn K (.ref C) = true) (q : PySem.W.excIn K C veMro "ValueError.__new__" = true)
    (s : PySem.W.subIn K (.ref C) (.type "BaseException") = some true) (t : PySem.W.typeIn K (.ref C) = some (.type "type")) (e : ExcC K C) : EC K mg x := ⟨C, PySem.W.mg_of X G a, k, q, s, t, e⟩
end
/-! ### all of the errors at once -/
def excB (K : PySem.W.Frag) (C : Addr) : Bool :=
  decide (PySem.W.findIn K (.ref C) "__getattribute__" = some (some (.builtin "BaseException.__getattribute__"))) && decide (PySem.W.findIn K (.ref C) "__getattr__" = some none) && decide (PySem.W.subIn K (.ref C) (.type "BaseException") = some true) && PySem.W.hasDictIn K C &&
    decide (PySem.W.findIn K (.ref C) "__class__" = some (some (.builtin "object.__class__"))) && decide (PySem.W.specialIn K (.builtin "object.__class__") "__get__" = some (some (.builtin "getset_descriptor.__get__"))) && decide (PySem.W.takesIn K (.builtin "object.__class__") = some true) && decide (PySem.W.mroIn K C (.type "object") = some true)
theorem excB_mk {K : PySem.W.Frag} {C : Addr} (h : excB K C = true) : ExcC K C := by
  unfold excB at h
  simp only [Bool.and_eq_true, decide_eq_true_eq] at h
  obtain ⟨⟨⟨⟨⟨⟨⟨h1, h2⟩, h3⟩, h4⟩, h5⟩, h6⟩, h7⟩, h8⟩ := h
  exact ⟨h1, h2, h3, h4, h5, h6, h7, h8⟩
def errB (K : PySem.W.Frag) (l : List (Str × Addr)) (P : List (Str × Str × Bool)) (CR : Addr) : Bool :=
  (l.all fun p => decide (PySem.W.nsIn K mainGlobals p.1 = some (some (.ref p.2))) && PySem.W.keepIn K (.ref p.2) && PySem.W.excIn K p.2 veMro "ValueError.__new__" && decide (PySem.W.typeIn K (.ref p.2) = some (.type "type")) && excB K p.2 &&
      decide (PySem.W.exmOne K (.ref p.2) (.ref CR) = some true) && decide (PySem.W.kitOne K (.ref p.2) (.type "ValueError") = some true)) &&
    P.all fun p => l.all fun c => l.all fun d => !(c.1 == p.1 && d.1 == p.2.1) || decide (PySem.W.kitOne K (.ref c.2) (.ref d.2) = some p.2.2)
structure ErrAll (K : PySem.W.Frag) (mg : Str → Option Value) (l : List (Str × Addr)) (P : List (Str × Str × Bool)) (CR : Addr) : Prop where
  ec : ∀ p ∈ l, EC K mg p.1
  at_ : ErrA K mg l
  cat : ∀ c b, catN (l.map (·.1)) c = some b → ∀ C, mg c = some (.ref C) → PySem.W.exmOne K (.ref C) (.ref CR) = some b
  isE : ∀ c C fs (d : Option Addr), mg c = some (.ref C) → (fs = [] → d = none) → (d = none ∧ ExcC K C ∧ IsT K mg C (isF fs (isTab P (l.map (·.1)) c))) ∨ ∀ t, isF fs (isTab P (l.map (·.1)) c) t = none
theorem errs_mk {K : PySem.W.Frag} {mg : Str → Option Value} {h : Heap} {l : List (Str × Addr)} {P : List (Str × Str × Bool)} {CR : Addr} (X : K.In h) (G : h.Ns mainGlobals mg) (e : errB K l P CR = true) (hP : (P.all fun p => decide (p.1 ∈ l.map (·.1)) && decide (p.2.1 ∈ l.map (·.1))) = true) : ErrAll K mg l P CR := by
  unfold errB at e
  simp only [Bool.and_eq_true, List.all_eq_true, decide_eq_true_eq] at e hP
  obtain ⟨e1, e2⟩ := e
  have hA : ErrA K mg l := ⟨fun p hp => PySem.W.mg_of X G (e1 p hp).1.1.1.1.1.1⟩
  refine ⟨fun p hp => ?_, hA, cat_mk rfl hA fun p hp => (e1 p hp).1.2, isE_mk rfl hA (fun p hp => (hP p hp).1) (fun p hp => excB_mk (e1 p hp).1.1.2) (fun p hp C D hc hd => ?_) (fun p hp => (hP p hp).2) fun p hp => (e1 p hp).2⟩
  · obtain ⟨⟨⟨⟨⟨⟨h1, h2⟩, h3⟩, h4⟩, h5⟩, h6⟩, h7⟩ := e1 p hp
    exact ec_mk X G h1 h2 h3 (excB_mk h5).hs h4 (excB_mk h5)
  · have q := e2 p hp (p.1, C) hc (p.2.1, D) hd
    simpa using q
end Mi
end
section
set_option Elab.async false
set_option linter.all false
set_option maxRecDepth 100000
set_option maxHeartbeats 8000000
namespace G73
open PySem PySem.Spec PyProof.Rows L2 Mi
/-- what stands at the top, by its place -/
abbrev top (i : Nat) : Stmt := (PySem.Challenge.pw_roundwarrant_k73_whole_backing_of_both).main.body.getD i (.Pass ⟨0, 0, 0, 0⟩)
/-- turns enough for each while -/
abbrev fuel : Nat := 10000000000000000000000000000000000000000000000000000000000000000000000000000000000000000000000000000000000000000000000000000000000000000000000000000000000000000000000000000000000000000000000000000000000000000000000000000000000000000000000000000000000000000000000000000000000000000000000000000000000000000000000000000000000000000000000000000000000000000000000000000000000000000000000000000000000000000
abbrev c_FIFTY : Int := 100000000000000000000000000000000000000000000000000
abbrev c_MOST_TURNS : Int := 6
abbrev c_MOST_NAME : Int := 8
abbrev c_MOST_INS : Int := 6
abbrev c_MOST_ROWS : Int := 3
abbrev c_MOST_LENGTH : Int := 30
/-- which errors the law's clause takes -/
abbrev errN : List Str := ["RoundError", "NoHold", "NoPromise", "Unlike"]
abbrev catT : Str → Option Bool := catN errN
/-- what isinstance tells of an error of the class c -/
abbrev isP : List (Str × Str × Bool) := [("RoundError", "RoundError", true), ("RoundError", "NoHold", false), ("RoundError", "NoPromise", false), ("RoundError", "Unlike", false), ("NoHold", "RoundError", true), ("NoHold", "NoHold", true), ("NoHold", "NoPromise", false), ("NoHold", "Unlike", false), ("NoPromise", "RoundError", true), ("NoPromise", "NoHold", false), ("NoPromise", "NoPromise", true), ("NoPromise", "Unlike", false), ("Unlike", "RoundError", true), ("Unlike", "NoHold", false), ("Unlike", "NoPromise", false), ("Unlike", "Unlike", true)]
abbrev isT : Str → PV → Option Bool := isTab isP errN
/-! is_integer -/
abbrev s_is_integer : Stmt := top 8
def d_is_integer : EnP → Sto → SR := dRet (dAnd (dCB fIsi (dCons (dV 0) (dCons (dC (.ty "int")) (dNil)))) (dNot (dCB fIsi (dCons (dV 0) (dCons (dC (.ty "bool")) (dNil))))))
def F_is_integer : List PV → Sto → Res PV := runF 1 1 d_is_integer
theorem sc_is_integer : FnScope (["thing"] : List Str) (["thing"] : List Str) (defScope s_is_integer) := ⟨rfl, rfl, rfl, by decide +kernel, rfl, by decide +kernel, by decide +kernel⟩
theorem fc_is_integer {Z : Wd} (B : Bi Z.mg) (hT : Z.T.lm = none) (D : DefOk Z "is_integer" s_is_integer) : FC Z 1 "is_integer" F_is_integer := by
  have Sc := sc_is_integer
  exact D.fc Sc (fun _ _ _ _ _ _ us hl => match us, hl with | [_], _ => rfl) fun f cdv A outer s H E C => by exact (css_one (cs_ret (ce_and (ce_callB call_isi sl_isi rfl B.b_isinstance PyProof.Rows.boot_isinstance (ca_cons (ce_v 0) (ca_cons (ce_bty rfl B.b_int PyProof.Rows.boot_int) ca_nil))) (ce_one (ce_not (ce_callB call_isi sl_isi rfl B.b_isinstance PyProof.Rows.boot_isinstance (ca_cons (ce_v 0) (ca_cons (ce_bty rfl B.b_bool PyProof.Rows.boot_bool) ca_nil))))))))
/-! is_within -/
abbrev s_is_within : Stmt := top 9
def d_is_within : EnP → Sto → SR := dRet (dAnd (dCB F_is_integer (dCons (dV 0) (dNil))) (dChain (fCmpI iLe) (fCmpI iLe) (dV 1) (dV 0) (dV 2)))
def F_is_within : List PV → Sto → Res PV := runF 3 3 d_is_within
theorem sc_is_within : FnScope (["thing", "low", "high"] : List Str) (["thing", "low", "high"] : List Str) (defScope s_is_within) := ⟨rfl, rfl, rfl, by decide +kernel, rfl, by decide +kernel, by decide +kernel⟩
theorem fc_is_within {Z : Wd} (B : Bi Z.mg) (hT : Z.T.lm = none) (h_is_integer : FC Z 1 "is_integer" F_is_integer) (D : DefOk Z "is_within" s_is_within) : FC Z 2 "is_within" F_is_within := by
  have Sc := sc_is_within
  exact D.fc Sc (fun _ _ _ _ _ _ us hl => match us, hl with | [_, _, _], _ => rfl) fun f cdv A outer s H E C => by exact (css_one (cs_ret (ce_and (ce_call h_is_integer C (by decide) rfl (ca_cons (ce_v 0) ca_nil)) (ce_one (ce_chain op_le (sn_cmpI iLe) op_le (sn_cmpI iLe) (ce_v 1) (ce_v 0) (ce_v 2))))))
/-! too_great -/
abbrev s_too_great : Stmt := top 10
def d_too_great : EnP → Sto → SR := dSeq (dSet 0 (dC (.int 1))) (dSeq (dFor (iRange (dCons (dC (.int c_MOST_TURNS)) (dNil))) (gNm 1) (dSet 0 (dBin (fMul false) (dV 0) (dC (.int c_FIFTY))))) (dRet (dV 0)))
def F_too_great : List PV → Sto → Res PV := runF 0 2 d_too_great
theorem sc_too_great : FnScope (["found", "turn"] : List Str) ([] : List Str) (defScope s_too_great) := ⟨rfl, rfl, rfl, by decide +kernel, rfl, by decide +kernel, by decide +kernel⟩
theorem fc_too_great {Z : Wd} (B : Bi Z.mg) (hT : Z.T.lm = none) (h_MOST_TURNS : ∃ t, Z.mg "MOST_TURNS" = some (.int c_MOST_TURNS t)) (h_FIFTY : ∃ t, Z.mg "FIFTY" = some (.int c_FIFTY t)) (D : DefOk Z "too_great" s_too_great) : FC Z 1 "too_great" F_too_great := by
  have Sc := sc_too_great
  exact D.fc Sc (fun _ _ _ _ _ _ us hl => match us, hl with | [], _ => rfl) fun f cdv A outer s H E C => by exact (css_cons (cs_set (i := 0) Sc.nd rfl (Or.inl rfl) ce_int) (css_cons (cs_for C.po C.calm (ci_range1 rfl B.b_range (ca_cons (ce_gi h_MOST_TURNS rfl) ca_nil) rfl len1) (cg_name (i := 1) Sc.nd rfl (Or.inl rfl)) (css_one (cs_set (i := 0) Sc.nd rfl (Or.inl rfl) (ce_bin op_mulM (sn_mul false (fun h => nomatch h)) (ce_v 0) (ce_gi h_FIFTY rfl))))) (css_one (cs_ret (ce_v 0)))))
/-! common_divisor -/
abbrev s_common_divisor : Stmt := top 11
def d_common_divisor : EnP → Sto → SR := dSeq (dPar 0 1 (dCons (dCB fAbs (dCons (dV 0) (dNil))) (dCons (dCB fAbs (dCons (dV 1) (dNil))) (dNil)))) (dSeq (whileP (dB (dBin (fCmpI iGt) (dV 1) (dC (.int 0)))) (dPar 0 1 (dCons (dV 1) (dCons (dBin fMod (dV 0) (dV 1)) (dNil)))) fuel) (dRet (dV 0)))
def F_common_divisor : List PV → Sto → Res PV := runF 2 2 d_common_divisor
theorem sc_common_divisor : FnScope (["one", "other"] : List Str) (["one", "other"] : List Str) (defScope s_common_divisor) := ⟨rfl, rfl, rfl, by decide +kernel, rfl, by decide +kernel, by decide +kernel⟩
theorem fc_common_divisor {Z : Wd} (B : Bi Z.mg) (hT : Z.T.lm = none) (D : DefOk Z "common_divisor" s_common_divisor) : FC Z 1 "common_divisor" F_common_divisor := by
  have Sc := sc_common_divisor
  exact D.fc Sc (fun _ _ _ _ _ _ us hl => match us, hl with | [_, _], _ => rfl) fun f cdv A outer s H E C => by exact (css_cons (cs_par (i := 0) (j := 1) C.calm Sc.nd rfl rfl (by decide) rfl rfl (ca_cons (ce_callB call_abs sl_abs rfl B.b_abs PyProof.Rows.boot_abs (ca_cons (ce_v 0) ca_nil)) (ca_cons (ce_callB call_abs sl_abs rfl B.b_abs PyProof.Rows.boot_abs (ca_cons (ce_v 1) ca_nil)) ca_nil)) rfl) (css_cons (cs_while fuel C.po (ct_cmp op_gt (sn_cmpI iGt) (ce_v 1) ce_int rfl) (css_one (cs_par (i := 0) (j := 1) C.calm Sc.nd rfl rfl (by decide) rfl rfl (ca_cons (ce_v 1) (ca_cons (ce_bin op_modN sn_mod (ce_v 0) (ce_v 1)) ca_nil)) rfl))) (css_one (cs_ret (ce_v 0)))))
/-! is_fraction -/
abbrev s_is_fraction : Stmt := top 12
def d_is_fraction : EnP → Sto → SR := dSeq (dIfS (bOr (bNot (dTru (dCB fIsi (dCons (dV 0) (dCons (dC (.ty "tuple")) (dNil)))))) (bOr (dB (dBin (fEq true) (dCB fLen (dCons (dV 0) (dNil))) (dC (.int 2)))) (bNot (dTru (dCB fAll (dCons (dLc false (iSeq (dV 0)) (cNm 1) (dYes) (dCB F_is_integer (dCons (dV 1) (dNil))) [1]) (dNil))))))) (dRet (dC (.bl false))) (dPass)) (dSeq (dSet 2 (dCB F_too_great dNil)) (dSeq (dIfS (bOr (bNot (dB (dChain (fCmpI iLt) (fCmpI iLt) (dC (.int 0)) (dBin fIx (dV 0) (dC (.int 1))) (dV 2)))) (dB (dBin (fCmpI iGe) (dCB fAbs (dCons (dBin fIx (dV 0) (dC (.int 0))) (dNil))) (dV 2)))) (dRet (dC (.bl false))) (dPass)) (dRet (dBin (fEq false) (dCB F_common_divisor (dCons (dBin fIx (dV 0) (dC (.int 0))) (dCons (dBin fIx (dV 0) (dC (.int 1))) (dNil)))) (dC (.int 1))))))
def F_is_fraction : List PV → Sto → Res PV := runF 1 3 d_is_fraction
theorem sc_is_fraction : FnScope (["thing", "one", "most"] : List Str) (["thing"] : List Str) (defScope s_is_fraction) := ⟨rfl, rfl, rfl, by decide +kernel, rfl, by decide +kernel, by decide +kernel⟩
theorem fc_is_fraction {Z : Wd} (B : Bi Z.mg) (hT : Z.T.lm = none) (h_is_integer : FC Z 1 "is_integer" F_is_integer) (h_too_great : FC Z 1 "too_great" F_too_great) (h_common_divisor : FC Z 1 "common_divisor" F_common_divisor) (D : DefOk Z "is_fraction" s_is_fraction) : FC Z 2 "is_fraction" F_is_fraction := by
  have Sc := sc_is_fraction
  exact D.fc Sc (fun _ _ _ _ _ _ us hl => match us, hl with | [_], _ => rfl) fun f cdv A outer s H E C => by exact (css_cons (cs_if (ct_w (cw_or (ct_not (ct_tru (ce_callB call_isi sl_isi rfl B.b_isinstance PyProof.Rows.boot_isinstance (ca_cons (ce_v 0) (ca_cons (ce_bty rfl B.b_tuple PyProof.Rows.boot_tuple) ca_nil))))) (cw_or (ct_cmp (op_neD (u64 C.u)) sn_ne (ce_callB call_len sl_len rfl B.b_len (by decide +kernel) (ca_cons (ce_v 0) ca_nil)) ce_int rfl) (cw_or1 (ct_not (ct_tru (ce_callB (cr_all C.calm) sl_all rfl B.b_all (by decide +kernel) (ca_cons (ce_lcC false (fun h => nomatch h) C Sc.nd (ci_seq (ce_v 0)) (show BlkOk (["thing", "one", "most"] : List Str) (defScope s_is_fraction) _ [(("one" : Str), 1)] from blkOk_by (by decide +kernel)) (fun _ _ _ _ _ C => (pg_name (i := 1) Sc.nd rfl (Or.inl rfl) (Or.inr rfl))) (tgc_name (by decide)) (fun _ _ _ _ _ _ => pts_yes) (fun _ _ _ _ _ C => (ce_call h_is_integer C (by decide) rfl (ca_cons (ce_v 1) ca_nil)))) ca_nil)))))))) (css_one (cs_ret ce_bl)) css_nil) (css_cons (cs_set (i := 2) Sc.nd rfl (Or.inl rfl) (ce_call0 h_too_great C (by decide) rfl)) (css_cons (cs_if (ct_w (cw_or (ct_not (ct_chain op_lt (sn_cmpI iLt) op_lt (sn_cmpI iLt) ce_int (ce_ix (ce_v 0) ce_int (fun _ _ => rfl)) (ce_v 2))) (cw_or1 (ct_cmp op_ge (sn_cmpI iGe) (ce_callB call_abs sl_abs rfl B.b_abs PyProof.Rows.boot_abs (ca_cons (ce_ix (ce_v 0) ce_int (fun _ _ => rfl)) ca_nil)) (ce_v 2) rfl)))) (css_one (cs_ret ce_bl)) css_nil) (css_one (cs_ret (ce_cmp (op_eqD (u64 C.u)) sn_eq (ce_call h_common_divisor C (by decide) rfl (ca_cons (ce_ix (ce_v 0) ce_int (fun _ _ => rfl)) (ca_cons (ce_ix (ce_v 0) ce_int (fun _ _ => rfl)) ca_nil))) ce_int rfl))))))
/-! raw_at_most -/
abbrev s_raw_at_most : Stmt := top 13
def d_raw_at_most : EnP → Sto → SR := dRet (dBin (fCmpI iLe) (dBin (fMul false) (dBin fIx (dV 0) (dC (.int 0))) (dBin fIx (dV 1) (dC (.int 1)))) (dBin (fMul false) (dBin fIx (dV 1) (dC (.int 0))) (dBin fIx (dV 0) (dC (.int 1)))))
def F_raw_at_most : List PV → Sto → Res PV := runF 2 2 d_raw_at_most
theorem sc_raw_at_most : FnScope (["x", "y"] : List Str) (["x", "y"] : List Str) (defScope s_raw_at_most) := ⟨rfl, rfl, rfl, by decide +kernel, rfl, by decide +kernel, by decide +kernel⟩
theorem fc_raw_at_most {Z : Wd} (B : Bi Z.mg) (hT : Z.T.lm = none) (D : DefOk Z "raw_at_most" s_raw_at_most) : FC Z 1 "raw_at_most" F_raw_at_most := by
  have Sc := sc_raw_at_most
  exact D.fc Sc (fun _ _ _ _ _ _ us hl => match us, hl with | [_, _], _ => rfl) fun f cdv A outer s H E C => by exact (css_one (cs_ret (ce_cmp op_le (sn_cmpI iLe) (ce_bin op_mulM (sn_mul false (fun h => nomatch h)) (ce_ix (ce_v 0) ce_int (fun _ _ => rfl)) (ce_ix (ce_v 1) ce_int (fun _ _ => rfl))) (ce_bin op_mulM (sn_mul false (fun h => nomatch h)) (ce_ix (ce_v 1) ce_int (fun _ _ => rfl)) (ce_ix (ce_v 0) ce_int (fun _ _ => rfl))) rfl)))
/-! raw_lesser -/
abbrev s_raw_lesser : Stmt := top 14
def d_raw_lesser : EnP → Sto → SR := dRet (dIf (dTru (dCB F_raw_at_most (dCons (dV 0) (dCons (dV 1) (dNil))))) (dV 0) (dV 1))
def F_raw_lesser : List PV → Sto → Res PV := runF 2 2 d_raw_lesser
theorem sc_raw_lesser : FnScope (["x", "y"] : List Str) (["x", "y"] : List Str) (defScope s_raw_lesser) := ⟨rfl, rfl, rfl, by decide +kernel, rfl, by decide +kernel, by decide +kernel⟩
theorem fc_raw_lesser {Z : Wd} (B : Bi Z.mg) (hT : Z.T.lm = none) (h_raw_at_most : FC Z 1 "raw_at_most" F_raw_at_most) (D : DefOk Z "raw_lesser" s_raw_lesser) : FC Z 2 "raw_lesser" F_raw_lesser := by
  have Sc := sc_raw_lesser
  exact D.fc Sc (fun _ _ _ _ _ _ us hl => match us, hl with | [_, _], _ => rfl) fun f cdv A outer s H E C => by exact (css_one (cs_ret (ce_if (ct_tru (ce_call h_raw_at_most C (by decide) rfl (ca_cons (ce_v 0) (ca_cons (ce_v 1) ca_nil)))) (ce_v 0) (ce_v 1))))
/-! raw_greater -/
abbrev s_raw_greater : Stmt := top 15
def d_raw_greater : EnP → Sto → SR := dRet (dIf (dTru (dCB F_raw_at_most (dCons (dV 0) (dCons (dV 1) (dNil))))) (dV 1) (dV 0))
def F_raw_greater : List PV → Sto → Res PV := runF 2 2 d_raw_greater
theorem sc_raw_greater : FnScope (["x", "y"] : List Str) (["x", "y"] : List Str) (defScope s_raw_greater) := ⟨rfl, rfl, rfl, by decide +kernel, rfl, by decide +kernel, by decide +kernel⟩
theorem fc_raw_greater {Z : Wd} (B : Bi Z.mg) (hT : Z.T.lm = none) (h_raw_at_most : FC Z 1 "raw_at_most" F_raw_at_most) (D : DefOk Z "raw_greater" s_raw_greater) : FC Z 2 "raw_greater" F_raw_greater := by
  have Sc := sc_raw_greater
  exact D.fc Sc (fun _ _ _ _ _ _ us hl => match us, hl with | [_, _], _ => rfl) fun f cdv A outer s H E C => by exact (css_one (cs_ret (ce_if (ct_tru (ce_call h_raw_at_most C (by decide) rfl (ca_cons (ce_v 0) (ca_cons (ce_v 1) ca_nil)))) (ce_v 1) (ce_v 0))))
/-! is_hold -/
abbrev s_is_hold : Stmt := top 17
def d_is_hold : EnP → Sto → SR := dSeq (dIfS (bOr (bNot (dTru (dCB fIsi (dCons (dV 0) (dCons (dC (.ty "tuple")) (dNil)))))) (bOr (dB (dBin (fEq true) (dCB fLen (dCons (dV 0) (dNil))) (dC (.int 3)))) (bNot (dTru (dCB fAll (dCons (dLc false (iSeq (dV 0)) (cNm 1) (dYes) (dCB F_is_fraction (dCons (dV 1) (dNil))) [1]) (dNil))))))) (dRet (dC (.bl false))) (dPass)) (dRet (dAnd (dCB F_raw_at_most (dCons (dBin fIx (dV 0) (dC (.int 0))) (dCons (dBin fIx (dV 0) (dC (.int 1))) (dNil)))) (dBin (fCmpI iGe) (dBin fIx (dBin fIx (dV 0) (dC (.int 2))) (dC (.int 0))) (dC (.int 0)))))
def F_is_hold : List PV → Sto → Res PV := runF 1 2 d_is_hold
theorem sc_is_hold : FnScope (["thing", "one"] : List Str) (["thing"] : List Str) (defScope s_is_hold) := ⟨rfl, rfl, rfl, by decide +kernel, rfl, by decide +kernel, by decide +kernel⟩
theorem fc_is_hold {Z : Wd} (B : Bi Z.mg) (hT : Z.T.lm = none) (h_is_fraction : FC Z 2 "is_fraction" F_is_fraction) (h_raw_at_most : FC Z 1 "raw_at_most" F_raw_at_most) (D : DefOk Z "is_hold" s_is_hold) : FC Z 3 "is_hold" F_is_hold := by
  have Sc := sc_is_hold
  exact D.fc Sc (fun _ _ _ _ _ _ us hl => match us, hl with | [_], _ => rfl) fun f cdv A outer s H E C => by exact (css_cons (cs_if (ct_w (cw_or (ct_not (ct_tru (ce_callB call_isi sl_isi rfl B.b_isinstance PyProof.Rows.boot_isinstance (ca_cons (ce_v 0) (ca_cons (ce_bty rfl B.b_tuple PyProof.Rows.boot_tuple) ca_nil))))) (cw_or (ct_cmp (op_neD (u64 C.u)) sn_ne (ce_callB call_len sl_len rfl B.b_len (by decide +kernel) (ca_cons (ce_v 0) ca_nil)) ce_int rfl) (cw_or1 (ct_not (ct_tru (ce_callB (cr_all C.calm) sl_all rfl B.b_all (by decide +kernel) (ca_cons (ce_lcC false (fun h => nomatch h) C Sc.nd (ci_seq (ce_v 0)) (show BlkOk (["thing", "one"] : List Str) (defScope s_is_hold) _ [(("one" : Str), 1)] from blkOk_by (by decide +kernel)) (fun _ _ _ _ _ C => (pg_name (i := 1) Sc.nd rfl (Or.inl rfl) (Or.inr rfl))) (tgc_name (by decide)) (fun _ _ _ _ _ _ => pts_yes) (fun _ _ _ _ _ C => (ce_call h_is_fraction C (by decide) rfl (ca_cons (ce_v 1) ca_nil)))) ca_nil)))))))) (css_one (cs_ret ce_bl)) css_nil) (css_one (cs_ret (ce_and (ce_call h_raw_at_most C (by decide) rfl (ca_cons (ce_ix (ce_v 0) ce_int (fun _ _ => rfl)) (ca_cons (ce_ix (ce_v 0) ce_int (fun _ _ => rfl)) ca_nil))) (ce_one (ce_cmp op_ge (sn_cmpI iGe) (ce_ix (ce_ix (ce_v 0) ce_int (fun _ _ => rfl)) ce_int (fun _ _ => rfl)) ce_int rfl))))))
/-! check_hold -/
abbrev s_check_hold : Stmt := top 18
def d_check_hold : EnP → Sto → SR := dIfS (bNot (dTru (dCB F_is_hold (dCons (dV 0) (dNil))))) (dRaise ("NoHold" : Str)) (dPass)
def F_check_hold : List PV → Sto → Res PV := runF 1 1 d_check_hold
theorem sc_check_hold : FnScope (["thing"] : List Str) (["thing"] : List Str) (defScope s_check_hold) := ⟨rfl, rfl, rfl, by decide +kernel, rfl, by decide +kernel, by decide +kernel⟩
theorem fc_check_hold {Z : Wd} (B : Bi Z.mg) (hT : Z.T.lm = none) (e_NoHold : EC Z.K Z.mg "NoHold") (h_is_hold : FC Z 3 "is_hold" F_is_hold) (D : DefOk Z "check_hold" s_check_hold) : FC Z 4 "check_hold" F_check_hold := by
  have Sc := sc_check_hold
  exact D.fc Sc (fun _ _ _ _ _ _ us hl => match us, hl with | [_], _ => rfl) fun f cdv A outer s H E C => by exact (css_one (cs_if (ct_not (ct_tru (ce_call h_is_hold C (by decide) rfl (ca_cons (ce_v 0) ca_nil)))) (css_one (cs_raise0 e_NoHold C.calm C.tk rfl)) css_nil))
/-! raw_covers -/
abbrev s_raw_covers : Stmt := top 19
def d_raw_covers : EnP → Sto → SR := dSeq (dIfS (bOr (bNot (dTru (dCB F_raw_at_most (dCons (dBin fIx (dV 0) (dC (.int 0))) (dCons (dBin fIx (dV 1) (dC (.int 0))) (dNil)))))) (bNot (dTru (dCB F_raw_at_most (dCons (dBin fIx (dV 1) (dC (.int 1))) (dCons (dBin fIx (dV 0) (dC (.int 1))) (dNil))))))) (dRet (dC (.bl false))) (dPass)) (dRet (dCB F_raw_at_most (dCons (dBin fIx (dV 1) (dC (.int 2))) (dCons (dBin fIx (dV 0) (dC (.int 2))) (dNil)))))
def F_raw_covers : List PV → Sto → Res PV := runF 2 2 d_raw_covers
theorem sc_raw_covers : FnScope (["one", "other"] : List Str) (["one", "other"] : List Str) (defScope s_raw_covers) := ⟨rfl, rfl, rfl, by decide +kernel, rfl, by decide +kernel, by decide +kernel⟩
theorem fc_raw_covers {Z : Wd} (B : Bi Z.mg) (hT : Z.T.lm = none) (h_raw_at_most : FC Z 1 "raw_at_most" F_raw_at_most) (D : DefOk Z "raw_covers" s_raw_covers) : FC Z 2 "raw_covers" F_raw_covers := by
  have Sc := sc_raw_covers
  exact D.fc Sc (fun _ _ _ _ _ _ us hl => match us, hl with | [_, _], _ => rfl) fun f cdv A outer s H E C => by exact (css_cons (cs_if (ct_w (cw_or (ct_not (ct_tru (ce_call h_raw_at_most C (by decide) rfl (ca_cons (ce_ix (ce_v 0) ce_int (fun _ _ => rfl)) (ca_cons (ce_ix (ce_v 1) ce_int (fun _ _ => rfl)) ca_nil))))) (cw_or1 (ct_not (ct_tru (ce_call h_raw_at_most C (by decide) rfl (ca_cons (ce_ix (ce_v 1) ce_int (fun _ _ => rfl)) (ca_cons (ce_ix (ce_v 0) ce_int (fun _ _ => rfl)) ca_nil)))))))) (css_one (cs_ret ce_bl)) css_nil) (css_one (cs_ret (ce_call h_raw_at_most C (by decide) rfl (ca_cons (ce_ix (ce_v 1) ce_int (fun _ _ => rfl)) (ca_cons (ce_ix (ce_v 0) ce_int (fun _ _ => rfl)) ca_nil))))))
/-! raw_joined -/
abbrev s_raw_joined : Stmt := top 20
def d_raw_joined : EnP → Sto → SR := dRet (dTup (dCons (dCB F_raw_lesser (dCons (dBin fIx (dV 0) (dC (.int 0))) (dCons (dBin fIx (dV 1) (dC (.int 0))) (dNil)))) (dCons (dCB F_raw_greater (dCons (dBin fIx (dV 0) (dC (.int 1))) (dCons (dBin fIx (dV 1) (dC (.int 1))) (dNil)))) (dCons (dCB F_raw_greater (dCons (dBin fIx (dV 0) (dC (.int 2))) (dCons (dBin fIx (dV 1) (dC (.int 2))) (dNil)))) (dNil)))))
def F_raw_joined : List PV → Sto → Res PV := runF 2 2 d_raw_joined
theorem sc_raw_joined : FnScope (["one", "other"] : List Str) (["one", "other"] : List Str) (defScope s_raw_joined) := ⟨rfl, rfl, rfl, by decide +kernel, rfl, by decide +kernel, by decide +kernel⟩
theorem fc_raw_joined {Z : Wd} (B : Bi Z.mg) (hT : Z.T.lm = none) (h_raw_greater : FC Z 2 "raw_greater" F_raw_greater) (h_raw_lesser : FC Z 2 "raw_lesser" F_raw_lesser) (D : DefOk Z "raw_joined" s_raw_joined) : FC Z 3 "raw_joined" F_raw_joined := by
  have Sc := sc_raw_joined
  exact D.fc Sc (fun _ _ _ _ _ _ us hl => match us, hl with | [_, _], _ => rfl) fun f cdv A outer s H E C => by exact (css_one (cs_ret (ce_tup (ca_cons (ce_call h_raw_lesser C (by decide) rfl (ca_cons (ce_ix (ce_v 0) ce_int (fun _ _ => rfl)) (ca_cons (ce_ix (ce_v 1) ce_int (fun _ _ => rfl)) ca_nil))) (ca_cons (ce_call h_raw_greater C (by decide) rfl (ca_cons (ce_ix (ce_v 0) ce_int (fun _ _ => rfl)) (ca_cons (ce_ix (ce_v 1) ce_int (fun _ _ => rfl)) ca_nil))) (ca_cons (ce_call h_raw_greater C (by decide) rfl (ca_cons (ce_ix (ce_v 0) ce_int (fun _ _ => rfl)) (ca_cons (ce_ix (ce_v 1) ce_int (fun _ _ => rfl)) ca_nil))) ca_nil))))))
/-! joined -/
abbrev s_joined : Stmt := top 21
def d_joined : EnP → Sto → SR := dSeq (dExpr (dCB F_check_hold (dCons (dV 0) (dNil)))) (dSeq (dExpr (dCB F_check_hold (dCons (dV 1) (dNil)))) (dRet (dCB F_raw_joined (dCons (dV 0) (dCons (dV 1) (dNil))))))
def F_joined : List PV → Sto → Res PV := runF 2 2 d_joined
theorem sc_joined : FnScope (["one", "other"] : List Str) (["one", "other"] : List Str) (defScope s_joined) := ⟨rfl, rfl, rfl, by decide +kernel, rfl, by decide +kernel, by decide +kernel⟩
theorem fc_joined {Z : Wd} (B : Bi Z.mg) (hT : Z.T.lm = none) (h_check_hold : FC Z 4 "check_hold" F_check_hold) (h_raw_joined : FC Z 3 "raw_joined" F_raw_joined) (D : DefOk Z "joined" s_joined) : FC Z 5 "joined" F_joined := by
  have Sc := sc_joined
  exact D.fc Sc (fun _ _ _ _ _ _ us hl => match us, hl with | [_, _], _ => rfl) fun f cdv A outer s H E C => by exact (css_cons (cs_expr (ce_call h_check_hold C (by decide) rfl (ca_cons (ce_v 0) ca_nil))) (css_cons (cs_expr (ce_call h_check_hold C (by decide) rfl (ca_cons (ce_v 1) ca_nil))) (css_one (cs_ret (ce_call h_raw_joined C (by decide) rfl (ca_cons (ce_v 0) (ca_cons (ce_v 1) ca_nil)))))))
/-! is_name -/
abbrev s_is_name : Stmt := top 27
def d_is_name : EnP → Sto → SR := dSeq (dIfS (bOr (bNot (dTru (dCB fIsi (dCons (dV 0) (dCons (dC (.ty "str")) (dNil)))))) (bNot (dB (dChain (fCmpI iLe) (fCmpI iLe) (dC (.int 1)) (dCB fLen (dCons (dV 0) (dNil))) (dC (.int c_MOST_NAME)))))) (dRet (dC (.bl false))) (dPass)) (dRet (dCB fAll (dCons (dLc false (iSeq (dV 0)) (cNm 1) (dYes) (dChain (fCmpS sLe) (fCmpS sLe) (dC (.str ("a" : Str))) (dV 1) (dC (.str ("z" : Str)))) [1]) (dNil))))
def F_is_name : List PV → Sto → Res PV := runF 1 2 d_is_name
theorem sc_is_name : FnScope (["thing", "sign"] : List Str) (["thing"] : List Str) (defScope s_is_name) := ⟨rfl, rfl, rfl, by decide +kernel, rfl, by decide +kernel, by decide +kernel⟩
theorem fc_is_name {Z : Wd} (B : Bi Z.mg) (hT : Z.T.lm = none) (h_MOST_NAME : ∃ t, Z.mg "MOST_NAME" = some (.int c_MOST_NAME t)) (D : DefOk Z "is_name" s_is_name) : FC Z 1 "is_name" F_is_name := by
  have Sc := sc_is_name
  exact D.fc Sc (fun _ _ _ _ _ _ us hl => match us, hl with | [_], _ => rfl) fun f cdv A outer s H E C => by exact (css_cons (cs_if (ct_w (cw_or (ct_not (ct_tru (ce_callB call_isi sl_isi rfl B.b_isinstance PyProof.Rows.boot_isinstance (ca_cons (ce_v 0) (ca_cons (ce_bty rfl B.b_str PyProof.Rows.boot_str) ca_nil))))) (cw_or1 (ct_not (ct_chain op_le (sn_cmpI iLe) op_le (sn_cmpI iLe) ce_int (ce_callB call_len sl_len rfl B.b_len (by decide +kernel) (ca_cons (ce_v 0) ca_nil)) (ce_gi h_MOST_NAME rfl)))))) (css_one (cs_ret ce_bl)) css_nil) (css_one (cs_ret (ce_callB (cr_all C.calm) sl_all rfl B.b_all (by decide +kernel) (ca_cons (ce_lcC false (fun h => nomatch h) C Sc.nd (ci_seq (ce_v 0)) (show BlkOk (["thing", "sign"] : List Str) (defScope s_is_name) _ [(("sign" : Str), 1)] from blkOk_by (by decide +kernel)) (fun _ _ _ _ _ C => (pg_name (i := 1) Sc.nd rfl (Or.inl rfl) (Or.inr rfl))) (tgc_name (by decide)) (fun _ _ _ _ _ _ => pts_yes) (fun _ _ _ _ _ C => (ce_chain op_le_str (sn_cmpS sLe) op_le_str (sn_cmpS sLe) ce_str (ce_v 1) ce_str))) ca_nil)))))
/-! is_row -/
abbrev s_is_row : Stmt := top 28
def d_is_row : EnP → Sto → SR := dRet (dAnd (dCB fIsi (dCons (dV 0) (dCons (dC (.ty "tuple")) (dNil)))) (dAnd (dBin (fEq false) (dCB fLen (dCons (dV 0) (dNil))) (dC (.int 2))) (dAnd (dCB F_is_within (dCons (dBin fIx (dV 0) (dC (.int 0))) (dCons (dC (.int 1)) (dCons (dC (.int c_MOST_LENGTH)) (dNil))))) (dCB F_is_hold (dCons (dBin fIx (dV 0) (dC (.int 1))) (dNil))))))
def F_is_row : List PV → Sto → Res PV := runF 1 1 d_is_row
theorem sc_is_row : FnScope (["thing"] : List Str) (["thing"] : List Str) (defScope s_is_row) := ⟨rfl, rfl, rfl, by decide +kernel, rfl, by decide +kernel, by decide +kernel⟩
theorem fc_is_row {Z : Wd} (B : Bi Z.mg) (hT : Z.T.lm = none) (h_MOST_LENGTH : ∃ t, Z.mg "MOST_LENGTH" = some (.int c_MOST_LENGTH t)) (h_is_within : FC Z 2 "is_within" F_is_within) (h_is_hold : FC Z 3 "is_hold" F_is_hold) (D : DefOk Z "is_row" s_is_row) : FC Z 4 "is_row" F_is_row := by
  have Sc := sc_is_row
  exact D.fc Sc (fun _ _ _ _ _ _ us hl => match us, hl with | [_], _ => rfl) fun f cdv A outer s H E C => by exact (css_one (cs_ret (ce_and (ce_callB call_isi sl_isi rfl B.b_isinstance PyProof.Rows.boot_isinstance (ca_cons (ce_v 0) (ca_cons (ce_bty rfl B.b_tuple PyProof.Rows.boot_tuple) ca_nil))) (ce_and (ce_cmp (op_eqD (u64 C.u)) sn_eq (ce_callB call_len sl_len rfl B.b_len (by decide +kernel) (ca_cons (ce_v 0) ca_nil)) ce_int rfl) (ce_and (ce_call h_is_within C (by decide) rfl (ca_cons (ce_ix (ce_v 0) ce_int (fun _ _ => rfl)) (ca_cons ce_int (ca_cons (ce_gi h_MOST_LENGTH rfl) ca_nil)))) (ce_one (ce_call h_is_hold C (by decide) rfl (ca_cons (ce_ix (ce_v 0) ce_int (fun _ _ => rfl)) ca_nil))))))))
/-! are_rows -/
abbrev s_are_rows : Stmt := top 29
def d_are_rows : EnP → Sto → SR := dRet (dAnd (dCB fIsi (dCons (dV 0) (dCons (dC (.ty "tuple")) (dNil)))) (dAnd (dBin (fCmpI iLe) (dCB fLen (dCons (dV 0) (dNil))) (dC (.int c_MOST_ROWS))) (dCB fAll (dCons (dLc false (iSeq (dV 0)) (cNm 1) (dYes) (dCB F_is_row (dCons (dV 1) (dNil))) [1]) (dNil)))))
def F_are_rows : List PV → Sto → Res PV := runF 1 2 d_are_rows
theorem sc_are_rows : FnScope (["thing", "one"] : List Str) (["thing"] : List Str) (defScope s_are_rows) := ⟨rfl, rfl, rfl, by decide +kernel, rfl, by decide +kernel, by decide +kernel⟩
theorem fc_are_rows {Z : Wd} (B : Bi Z.mg) (hT : Z.T.lm = none) (h_MOST_ROWS : ∃ t, Z.mg "MOST_ROWS" = some (.int c_MOST_ROWS t)) (h_is_row : FC Z 4 "is_row" F_is_row) (D : DefOk Z "are_rows" s_are_rows) : FC Z 5 "are_rows" F_are_rows := by
  have Sc := sc_are_rows
  exact D.fc Sc (fun _ _ _ _ _ _ us hl => match us, hl with | [_], _ => rfl) fun f cdv A outer s H E C => by exact (css_one (cs_ret (ce_and (ce_callB call_isi sl_isi rfl B.b_isinstance PyProof.Rows.boot_isinstance (ca_cons (ce_v 0) (ca_cons (ce_bty rfl B.b_tuple PyProof.Rows.boot_tuple) ca_nil))) (ce_and (ce_cmp op_le (sn_cmpI iLe) (ce_callB call_len sl_len rfl B.b_len (by decide +kernel) (ca_cons (ce_v 0) ca_nil)) (ce_gi h_MOST_ROWS rfl) rfl) (ce_one (ce_callB (cr_all C.calm) sl_all rfl B.b_all (by decide +kernel) (ca_cons (ce_lcC false (fun h => nomatch h) C Sc.nd (ci_seq (ce_v 0)) (show BlkOk (["thing", "one"] : List Str) (defScope s_are_rows) _ [(("one" : Str), 1)] from blkOk_by (by decide +kernel)) (fun _ _ _ _ _ C => (pg_name (i := 1) Sc.nd rfl (Or.inl rfl) (Or.inr rfl))) (tgc_name (by decide)) (fun _ _ _ _ _ _ => pts_yes) (fun _ _ _ _ _ C => (ce_call h_is_row C (by decide) rfl (ca_cons (ce_v 1) ca_nil)))) ca_nil)))))))
/-! is_promise -/
abbrev s_is_promise : Stmt := top 30
def d_is_promise : EnP → Sto → SR := dSeq (dIfS (bOr (bNot (dTru (dCB fIsi (dCons (dV 0) (dCons (dC (.ty "tuple")) (dNil)))))) (bOr (dB (dBin (fEq true) (dCB fLen (dCons (dV 0) (dNil))) (dC (.int 4)))) (bNot (dTru (dCB F_is_name (dCons (dBin fIx (dV 0) (dC (.int 0))) (dNil))))))) (dRet (dC (.bl false))) (dPass)) (dSeq (dSet 1 (dBin fIx (dV 0) (dC (.int 1)))) (dSeq (dIfS (bOr (bNot (dTru (dCB fIsi (dCons (dV 1) (dCons (dC (.ty "tuple")) (dNil)))))) (bOr (dB (dBin (fCmpI iGt) (dCB fLen (dCons (dV 1) (dNil))) (dC (.int c_MOST_INS)))) (bNot (dTru (dCB fAll (dCons (dLc false (iSeq (dV 1)) (cNm 2) (dYes) (dCB F_is_hold (dCons (dV 2) (dNil))) [2]) (dNil))))))) (dRet (dC (.bl false))) (dPass)) (dRet (dAnd (dCB F_are_rows (dCons (dBin fIx (dV 0) (dC (.int 2))) (dNil))) (dCB F_is_hold (dCons (dBin fIx (dV 0) (dC (.int 3))) (dNil)))))))
def F_is_promise : List PV → Sto → Res PV := runF 1 3 d_is_promise
theorem sc_is_promise : FnScope (["thing", "ins", "one"] : List Str) (["thing"] : List Str) (defScope s_is_promise) := ⟨rfl, rfl, rfl, by decide +kernel, rfl, by decide +kernel, by decide +kernel⟩
theorem fc_is_promise {Z : Wd} (B : Bi Z.mg) (hT : Z.T.lm = none) (h_MOST_INS : ∃ t, Z.mg "MOST_INS" = some (.int c_MOST_INS t)) (h_is_name : FC Z 1 "is_name" F_is_name) (h_is_hold : FC Z 3 "is_hold" F_is_hold) (h_are_rows : FC Z 5 "are_rows" F_are_rows) (D : DefOk Z "is_promise" s_is_promise) : FC Z 6 "is_promise" F_is_promise := by
  have Sc := sc_is_promise
  exact D.fc Sc (fun _ _ _ _ _ _ us hl => match us, hl with | [_], _ => rfl) fun f cdv A outer s H E C => by exact (css_cons (cs_if (ct_w (cw_or (ct_not (ct_tru (ce_callB call_isi sl_isi rfl B.b_isinstance PyProof.Rows.boot_isinstance (ca_cons (ce_v 0) (ca_cons (ce_bty rfl B.b_tuple PyProof.Rows.boot_tuple) ca_nil))))) (cw_or (ct_cmp (op_neD (u64 C.u)) sn_ne (ce_callB call_len sl_len rfl B.b_len (by decide +kernel) (ca_cons (ce_v 0) ca_nil)) ce_int rfl) (cw_or1 (ct_not (ct_tru (ce_call h_is_name C (by decide) rfl (ca_cons (ce_ix (ce_v 0) ce_int (fun _ _ => rfl)) ca_nil)))))))) (css_one (cs_ret ce_bl)) css_nil) (css_cons (cs_set (i := 1) Sc.nd rfl (Or.inl rfl) (ce_ix (ce_v 0) ce_int (fun _ _ => rfl))) (css_cons (cs_if (ct_w (cw_or (ct_not (ct_tru (ce_callB call_isi sl_isi rfl B.b_isinstance PyProof.Rows.boot_isinstance (ca_cons (ce_v 1) (ca_cons (ce_bty rfl B.b_tuple PyProof.Rows.boot_tuple) ca_nil))))) (cw_or (ct_cmp op_gt (sn_cmpI iGt) (ce_callB call_len sl_len rfl B.b_len (by decide +kernel) (ca_cons (ce_v 1) ca_nil)) (ce_gi h_MOST_INS rfl) rfl) (cw_or1 (ct_not (ct_tru (ce_callB (cr_all C.calm) sl_all rfl B.b_all (by decide +kernel) (ca_cons (ce_lcC false (fun h => nomatch h) C Sc.nd (ci_seq (ce_v 1)) (show BlkOk (["thing", "ins", "one"] : List Str) (defScope s_is_promise) _ [(("one" : Str), 2)] from blkOk_by (by decide +kernel)) (fun _ _ _ _ _ C => (pg_name (i := 2) Sc.nd rfl (Or.inl rfl) (Or.inr rfl))) (tgc_name (by decide)) (fun _ _ _ _ _ _ => pts_yes) (fun _ _ _ _ _ C => (ce_call h_is_hold C (by decide) rfl (ca_cons (ce_v 2) ca_nil)))) ca_nil)))))))) (css_one (cs_ret ce_bl)) css_nil) (css_one (cs_ret (ce_and (ce_call h_are_rows C (by decide) rfl (ca_cons (ce_ix (ce_v 0) ce_int (fun _ _ => rfl)) ca_nil)) (ce_one (ce_call h_is_hold C (by decide) rfl (ca_cons (ce_ix (ce_v 0) ce_int (fun _ _ => rfl)) ca_nil)))))))))
/-! raw_backs -/
abbrev s_raw_backs : Stmt := top 32
def d_raw_backs : EnP → Sto → SR := dSeq (dIfS (bOr (dB (dBin (fEq true) (dCB fLen (dCons (dBin fIx (dV 0) (dC (.int 1))) (dNil))) (dCB fLen (dCons (dBin fIx (dV 1) (dC (.int 1))) (dNil))))) (dB (dBin (fEq true) (dLc false (iSeq (dBin fIx (dV 0) (dC (.int 2)))) (cNm 2) (dYes) (dBin fIx (dV 2) (dC (.int 0))) [2]) (dLc false (iSeq (dBin fIx (dV 1) (dC (.int 2)))) (cNm 2) (dYes) (dBin fIx (dV 2) (dC (.int 0))) [2])))) (dRet (dC (.bl false))) (dPass)) (dSeq (dIfS (bNot (dTru (dCB fAll (dCons (dLc false (iZip2 (dCons (dBin fIx (dV 0) (dC (.int 1))) (dCons (dBin fIx (dV 1) (dC (.int 1))) (dNil)))) (cTup 2 (cCons (cNm 3) (cCons (cNm 4) (cNil)))) (dYes) (dCB F_raw_covers (dCons (dV 3) (dCons (dV 4) (dNil)))) [3, 4]) (dNil))))) (dRet (dC (.bl false))) (dPass)) (dSeq (dIfS (bNot (dTru (dCB fAll (dCons (dLc false (iZip2 (dCons (dBin fIx (dV 0) (dC (.int 2))) (dCons (dBin fIx (dV 1) (dC (.int 2))) (dNil)))) (cTup 2 (cCons (cNm 3) (cCons (cNm 4) (cNil)))) (dYes) (dCB F_raw_covers (dCons (dBin fIx (dV 3) (dC (.int 1))) (dCons (dBin fIx (dV 4) (dC (.int 1))) (dNil)))) [3, 4]) (dNil))))) (dRet (dC (.bl false))) (dPass)) (dRet (dCB F_raw_covers (dCons (dBin fIx (dV 1) (dC (.int 3))) (dCons (dBin fIx (dV 0) (dC (.int 3))) (dNil)))))))
def F_raw_backs : List PV → Sto → Res PV := runF 2 5 d_raw_backs
theorem sc_raw_backs : FnScope (["export", "wanted", "row", "its", "mine"] : List Str) (["export", "wanted"] : List Str) (defScope s_raw_backs) := ⟨rfl, rfl, rfl, by decide +kernel, rfl, by decide +kernel, by decide +kernel⟩
theorem fc_raw_backs {Z : Wd} (B : Bi Z.mg) (hT : Z.T.lm = none) (h_raw_covers : FC Z 2 "raw_covers" F_raw_covers) (D : DefOk Z "raw_backs" s_raw_backs) : FC Z 3 "raw_backs" F_raw_backs := by
  have Sc := sc_raw_backs
  exact D.fc Sc (fun _ _ _ _ _ _ us hl => match us, hl with | [_, _], _ => rfl) fun f cdv A outer s H E C => by exact (css_cons (cs_if (ct_w (cw_or (ct_cmp (op_neD (u64 C.u)) sn_ne (ce_callB call_len sl_len rfl B.b_len (by decide +kernel) (ca_cons (ce_ix (ce_v 0) ce_int (fun _ _ => rfl)) ca_nil)) (ce_callB call_len sl_len rfl B.b_len (by decide +kernel) (ca_cons (ce_ix (ce_v 1) ce_int (fun _ _ => rfl)) ca_nil)) rfl) (cw_or1 (ct_cmp (op_neD (u64 C.u)) sn_ne (ce_lcC false (fun h => nomatch h) C Sc.nd (ci_seq (ce_ix (ce_v 0) ce_int (fun _ _ => rfl))) (show BlkOk (["export", "wanted", "row", "its", "mine"] : List Str) (defScope s_raw_backs) _ [(("row" : Str), 2)] from blkOk_by (by decide +kernel)) (fun _ _ _ _ _ C => (pg_name (i := 2) Sc.nd rfl (Or.inl rfl) (Or.inr rfl))) (tgc_name (by decide)) (fun _ _ _ _ _ _ => pts_yes) (fun _ _ _ _ _ C => (ce_ix (ce_v 2) ce_int (fun _ _ => rfl)))) (ce_lcC false (fun h => nomatch h) C Sc.nd (ci_seq (ce_ix (ce_v 1) ce_int (fun _ _ => rfl))) (show BlkOk (["export", "wanted", "row", "its", "mine"] : List Str) (defScope s_raw_backs) _ [(("row" : Str), 2)] from blkOk_by (by decide +kernel)) (fun _ _ _ _ _ C => (pg_name (i := 2) Sc.nd rfl (Or.inl rfl) (Or.inr rfl))) (tgc_name (by decide)) (fun _ _ _ _ _ _ => pts_yes) (fun _ _ _ _ _ C => (ce_ix (ce_v 2) ce_int (fun _ _ => rfl)))) rfl)))) (css_one (cs_ret ce_bl)) css_nil) (css_cons (cs_if (ct_not (ct_tru (ce_callB (cr_all C.calm) sl_all rfl B.b_all (by decide +kernel) (ca_cons (ce_lcC false (fun h => nomatch h) C Sc.nd (ci_zip rfl B.b_zip (ca_cons (ce_ix (ce_v 0) ce_int (fun _ _ => rfl)) (ca_cons (ce_ix (ce_v 1) ce_int (fun _ _ => rfl)) ca_nil))) (show BlkOk (["export", "wanted", "row", "its", "mine"] : List Str) (defScope s_raw_backs) _ [(("its" : Str), 3), (("mine" : Str), 4)] from blkOk_by (by decide +kernel)) (fun _ _ _ _ _ C => (pg_tup C.calm (pgs_cons (pg_name (i := 3) Sc.nd rfl (Or.inl rfl) (Or.inr rfl)) (pgs_cons (pg_name (i := 4) Sc.nd rfl (Or.inl rfl) (Or.inr rfl)) pgs_nil rfl) rfl) rfl rfl)) (tgc_tup (tgcs_cons (tgc_name (by decide)) (tgcs_cons (tgc_name (by decide)) tgcs_nil))) (fun _ _ _ _ _ _ => pts_yes) (fun _ _ _ _ _ C => (ce_call h_raw_covers C (by decide) rfl (ca_cons (ce_v 3) (ca_cons (ce_v 4) ca_nil))))) ca_nil)))) (css_one (cs_ret ce_bl)) css_nil) (css_cons (cs_if (ct_not (ct_tru (ce_callB (cr_all C.calm) sl_all rfl B.b_all (by decide +kernel) (ca_cons (ce_lcC false (fun h => nomatch h) C Sc.nd (ci_zip rfl B.b_zip (ca_cons (ce_ix (ce_v 0) ce_int (fun _ _ => rfl)) (ca_cons (ce_ix (ce_v 1) ce_int (fun _ _ => rfl)) ca_nil))) (show BlkOk (["export", "wanted", "row", "its", "mine"] : List Str) (defScope s_raw_backs) _ [(("its" : Str), 3), (("mine" : Str), 4)] from blkOk_by (by decide +kernel)) (fun _ _ _ _ _ C => (pg_tup C.calm (pgs_cons (pg_name (i := 3) Sc.nd rfl (Or.inl rfl) (Or.inr rfl)) (pgs_cons (pg_name (i := 4) Sc.nd rfl (Or.inl rfl) (Or.inr rfl)) pgs_nil rfl) rfl) rfl rfl)) (tgc_tup (tgcs_cons (tgc_name (by decide)) (tgcs_cons (tgc_name (by decide)) tgcs_nil))) (fun _ _ _ _ _ _ => pts_yes) (fun _ _ _ _ _ C => (ce_call h_raw_covers C (by decide) rfl (ca_cons (ce_ix (ce_v 3) ce_int (fun _ _ => rfl)) (ca_cons (ce_ix (ce_v 4) ce_int (fun _ _ => rfl)) ca_nil))))) ca_nil)))) (css_one (cs_ret ce_bl)) css_nil) (css_one (cs_ret (ce_call h_raw_covers C (by decide) rfl (ca_cons (ce_ix (ce_v 1) ce_int (fun _ _ => rfl)) (ca_cons (ce_ix (ce_v 0) ce_int (fun _ _ => rfl)) ca_nil))))))))
/-! check_promise -/
abbrev s_check_promise : Stmt := top 33
def d_check_promise : EnP → Sto → SR := dIfS (bNot (dTru (dCB F_is_promise (dCons (dV 0) (dNil))))) (dRaise ("NoPromise" : Str)) (dPass)
def F_check_promise : List PV → Sto → Res PV := runF 1 1 d_check_promise
theorem sc_check_promise : FnScope (["thing"] : List Str) (["thing"] : List Str) (defScope s_check_promise) := ⟨rfl, rfl, rfl, by decide +kernel, rfl, by decide +kernel, by decide +kernel⟩
theorem fc_check_promise {Z : Wd} (B : Bi Z.mg) (hT : Z.T.lm = none) (e_NoPromise : EC Z.K Z.mg "NoPromise") (h_is_promise : FC Z 6 "is_promise" F_is_promise) (D : DefOk Z "check_promise" s_check_promise) : FC Z 7 "check_promise" F_check_promise := by
  have Sc := sc_check_promise
  exact D.fc Sc (fun _ _ _ _ _ _ us hl => match us, hl with | [_], _ => rfl) fun f cdv A outer s H E C => by exact (css_one (cs_if (ct_not (ct_tru (ce_call h_is_promise C (by decide) rfl (ca_cons (ce_v 0) ca_nil)))) (css_one (cs_raise0 e_NoPromise C.calm C.tk rfl)) css_nil))
/-! backs -/
abbrev s_backs : Stmt := top 34
def d_backs : EnP → Sto → SR := dSeq (dExpr (dCB F_check_promise (dCons (dV 0) (dNil)))) (dSeq (dExpr (dCB F_check_promise (dCons (dV 1) (dNil)))) (dRet (dCB F_raw_backs (dCons (dV 0) (dCons (dV 1) (dNil))))))
def F_backs : List PV → Sto → Res PV := runF 2 2 d_backs
theorem sc_backs : FnScope (["export", "wanted"] : List Str) (["export", "wanted"] : List Str) (defScope s_backs) := ⟨rfl, rfl, rfl, by decide +kernel, rfl, by decide +kernel, by decide +kernel⟩
theorem fc_backs {Z : Wd} (B : Bi Z.mg) (hT : Z.T.lm = none) (h_check_promise : FC Z 7 "check_promise" F_check_promise) (h_raw_backs : FC Z 3 "raw_backs" F_raw_backs) (D : DefOk Z "backs" s_backs) : FC Z 8 "backs" F_backs := by
  have Sc := sc_backs
  exact D.fc Sc (fun _ _ _ _ _ _ us hl => match us, hl with | [_, _], _ => rfl) fun f cdv A outer s H E C => by exact (css_cons (cs_expr (ce_call h_check_promise C (by decide) rfl (ca_cons (ce_v 0) ca_nil))) (css_cons (cs_expr (ce_call h_check_promise C (by decide) rfl (ca_cons (ce_v 1) ca_nil))) (css_one (cs_ret (ce_call h_raw_backs C (by decide) rfl (ca_cons (ce_v 0) (ca_cons (ce_v 1) ca_nil)))))))
/-! are_alike -/
abbrev s_are_alike : Stmt := top 36
def d_are_alike : EnP → Sto → SR := dRet (dAnd (dBin (fEq false) (dCB fLen (dCons (dBin fIx (dV 0) (dC (.int 1))) (dNil))) (dCB fLen (dCons (dBin fIx (dV 1) (dC (.int 1))) (dNil)))) (dBin (fEq false) (dLc false (iSeq (dBin fIx (dV 0) (dC (.int 2)))) (cNm 2) (dYes) (dBin fIx (dV 2) (dC (.int 0))) [2]) (dLc false (iSeq (dBin fIx (dV 1) (dC (.int 2)))) (cNm 2) (dYes) (dBin fIx (dV 2) (dC (.int 0))) [2])))
def F_are_alike : List PV → Sto → Res PV := runF 2 3 d_are_alike
theorem sc_are_alike : FnScope (["one", "other", "row"] : List Str) (["one", "other"] : List Str) (defScope s_are_alike) := ⟨rfl, rfl, rfl, by decide +kernel, rfl, by decide +kernel, by decide +kernel⟩
theorem fc_are_alike {Z : Wd} (B : Bi Z.mg) (hT : Z.T.lm = none) (D : DefOk Z "are_alike" s_are_alike) : FC Z 1 "are_alike" F_are_alike := by
  have Sc := sc_are_alike
  exact D.fc Sc (fun _ _ _ _ _ _ us hl => match us, hl with | [_, _], _ => rfl) fun f cdv A outer s H E C => by exact (css_one (cs_ret (ce_and (ce_cmp (op_eqD (u64 C.u)) sn_eq (ce_callB call_len sl_len rfl B.b_len (by decide +kernel) (ca_cons (ce_ix (ce_v 0) ce_int (fun _ _ => rfl)) ca_nil)) (ce_callB call_len sl_len rfl B.b_len (by decide +kernel) (ca_cons (ce_ix (ce_v 1) ce_int (fun _ _ => rfl)) ca_nil)) rfl) (ce_one (ce_cmp (op_eqD (u64 C.u)) sn_eq (ce_lcC false (fun h => nomatch h) C Sc.nd (ci_seq (ce_ix (ce_v 0) ce_int (fun _ _ => rfl))) (show BlkOk (["one", "other", "row"] : List Str) (defScope s_are_alike) _ [(("row" : Str), 2)] from blkOk_by (by decide +kernel)) (fun _ _ _ _ _ C => (pg_name (i := 2) Sc.nd rfl (Or.inl rfl) (Or.inr rfl))) (tgc_name (by decide)) (fun _ _ _ _ _ _ => pts_yes) (fun _ _ _ _ _ C => (ce_ix (ce_v 2) ce_int (fun _ _ => rfl)))) (ce_lcC false (fun h => nomatch h) C Sc.nd (ci_seq (ce_ix (ce_v 1) ce_int (fun _ _ => rfl))) (show BlkOk (["one", "other", "row"] : List Str) (defScope s_are_alike) _ [(("row" : Str), 2)] from blkOk_by (by decide +kernel)) (fun _ _ _ _ _ C => (pg_name (i := 2) Sc.nd rfl (Or.inl rfl) (Or.inr rfl))) (tgc_name (by decide)) (fun _ _ _ _ _ _ => pts_yes) (fun _ _ _ _ _ C => (ce_ix (ce_v 2) ce_int (fun _ _ => rfl)))) rfl)))))
/-! check_both -/
abbrev s_check_both : Stmt := top 37
def d_check_both : EnP → Sto → SR := dSeq (dExpr (dCB F_check_promise (dCons (dV 0) (dNil)))) (dExpr (dCB F_check_promise (dCons (dV 1) (dNil))))
def F_check_both : List PV → Sto → Res PV := runF 2 2 d_check_both
theorem sc_check_both : FnScope (["one", "other"] : List Str) (["one", "other"] : List Str) (defScope s_check_both) := ⟨rfl, rfl, rfl, by decide +kernel, rfl, by decide +kernel, by decide +kernel⟩
theorem fc_check_both {Z : Wd} (B : Bi Z.mg) (hT : Z.T.lm = none) (h_check_promise : FC Z 7 "check_promise" F_check_promise) (D : DefOk Z "check_both" s_check_both) : FC Z 8 "check_both" F_check_both := by
  have Sc := sc_check_both
  exact D.fc Sc (fun _ _ _ _ _ _ us hl => match us, hl with | [_, _], _ => rfl) fun f cdv A outer s H E C => by exact (css_cons (cs_expr (ce_call h_check_promise C (by decide) rfl (ca_cons (ce_v 0) ca_nil))) (css_one (cs_expr (ce_call h_check_promise C (by decide) rfl (ca_cons (ce_v 1) ca_nil)))))
/-! met_holds -/
abbrev s_met_holds : Stmt := top 38
def d_met_holds : EnP → Sto → SR := dSeq (dPar 2 3 (dCons (dCB F_raw_greater (dCons (dBin fIx (dV 0) (dC (.int 0))) (dCons (dBin fIx (dV 1) (dC (.int 0))) (dNil)))) (dCons (dCB F_raw_lesser (dCons (dBin fIx (dV 0) (dC (.int 1))) (dCons (dBin fIx (dV 1) (dC (.int 1))) (dNil)))) (dNil)))) (dRet (dIf (dTru (dCB F_raw_at_most (dCons (dV 2) (dCons (dV 3) (dNil))))) (dTup (dCons (dV 2) (dCons (dV 3) (dCons (dCB F_raw_lesser (dCons (dBin fIx (dV 0) (dC (.int 2))) (dCons (dBin fIx (dV 1) (dC (.int 2))) (dNil)))) (dNil))))) (dC .non)))
def F_met_holds : List PV → Sto → Res PV := runF 2 4 d_met_holds
theorem sc_met_holds : FnScope (["one", "other", "low", "high"] : List Str) (["one", "other"] : List Str) (defScope s_met_holds) := ⟨rfl, rfl, rfl, by decide +kernel, rfl, by decide +kernel, by decide +kernel⟩
theorem fc_met_holds {Z : Wd} (B : Bi Z.mg) (hT : Z.T.lm = none) (h_raw_greater : FC Z 2 "raw_greater" F_raw_greater) (h_raw_lesser : FC Z 2 "raw_lesser" F_raw_lesser) (h_raw_at_most : FC Z 1 "raw_at_most" F_raw_at_most) (D : DefOk Z "met_holds" s_met_holds) : FC Z 3 "met_holds" F_met_holds := by
  have Sc := sc_met_holds
  exact D.fc Sc (fun _ _ _ _ _ _ us hl => match us, hl with | [_, _], _ => rfl) fun f cdv A outer s H E C => by exact (css_cons (cs_par (i := 2) (j := 3) C.calm Sc.nd rfl rfl (by decide) rfl rfl (ca_cons (ce_call h_raw_greater C (by decide) rfl (ca_cons (ce_ix (ce_v 0) ce_int (fun _ _ => rfl)) (ca_cons (ce_ix (ce_v 1) ce_int (fun _ _ => rfl)) ca_nil))) (ca_cons (ce_call h_raw_lesser C (by decide) rfl (ca_cons (ce_ix (ce_v 0) ce_int (fun _ _ => rfl)) (ca_cons (ce_ix (ce_v 1) ce_int (fun _ _ => rfl)) ca_nil))) ca_nil)) rfl) (css_one (cs_ret (ce_if (ct_tru (ce_call h_raw_at_most C (by decide) rfl (ca_cons (ce_v 2) (ca_cons (ce_v 3) ca_nil)))) (ce_tup (ca_cons (ce_v 2) (ca_cons (ce_v 3) (ca_cons (ce_call h_raw_lesser C (by decide) rfl (ca_cons (ce_ix (ce_v 0) ce_int (fun _ _ => rfl)) (ca_cons (ce_ix (ce_v 1) ce_int (fun _ _ => rfl)) ca_nil))) ca_nil)))) ce_non))))
/-! check_alike -/
abbrev s_check_alike : Stmt := top 39
def d_check_alike : EnP → Sto → SR := dSeq (dExpr (dCB F_check_both (dCons (dV 0) (dCons (dV 1) (dNil))))) (dIfS (bNot (dTru (dCB F_are_alike (dCons (dV 0) (dCons (dV 1) (dNil)))))) (dRaise ("Unlike" : Str)) (dPass))
def F_check_alike : List PV → Sto → Res PV := runF 2 2 d_check_alike
theorem sc_check_alike : FnScope (["one", "other"] : List Str) (["one", "other"] : List Str) (defScope s_check_alike) := ⟨rfl, rfl, rfl, by decide +kernel, rfl, by decide +kernel, by decide +kernel⟩
theorem fc_check_alike {Z : Wd} (B : Bi Z.mg) (hT : Z.T.lm = none) (e_Unlike : EC Z.K Z.mg "Unlike") (h_check_both : FC Z 8 "check_both" F_check_both) (h_are_alike : FC Z 1 "are_alike" F_are_alike) (D : DefOk Z "check_alike" s_check_alike) : FC Z 9 "check_alike" F_check_alike := by
  have Sc := sc_check_alike
  exact D.fc Sc (fun _ _ _ _ _ _ us hl => match us, hl with | [_, _], _ => rfl) fun f cdv A outer s H E C => by exact (css_cons (cs_expr (ce_call h_check_both C (by decide) rfl (ca_cons (ce_v 0) (ca_cons (ce_v 1) ca_nil)))) (css_one (cs_if (ct_not (ct_tru (ce_call h_are_alike C (by decide) rfl (ca_cons (ce_v 0) (ca_cons (ce_v 1) ca_nil))))) (css_one (cs_raise0 e_Unlike C.calm C.tk rfl)) css_nil)))
/-! backing_both -/
abbrev s_backing_both : Stmt := top 40
def d_backing_both : EnP → Sto → SR := dSeq (dExpr (dCB F_check_alike (dCons (dV 0) (dCons (dV 1) (dNil))))) (dSeq (dSet 2 (dCB fTuple (dCons (dLc false (iZip2 (dCons (dBin fIx (dV 0) (dC (.int 1))) (dCons (dBin fIx (dV 1) (dC (.int 1))) (dNil)))) (cTup 2 (cCons (cNm 3) (cCons (cNm 4) (cNil)))) (dYes) (dCB F_raw_joined (dCons (dV 3) (dCons (dV 4) (dNil)))) [3, 4]) (dNil)))) (dSeq (dSet 5 (dCB fTuple (dCons (dLc false (iZip2 (dCons (dBin fIx (dV 0) (dC (.int 2))) (dCons (dBin fIx (dV 1) (dC (.int 2))) (dNil)))) (cTup 2 (cCons (cNm 3) (cCons (cNm 4) (cNil)))) (dYes) (dTup (dCons (dBin fIx (dV 3) (dC (.int 0))) (dCons (dCB F_raw_joined (dCons (dBin fIx (dV 3) (dC (.int 1))) (dCons (dBin fIx (dV 4) (dC (.int 1))) (dNil)))) (dNil)))) [3, 4]) (dNil)))) (dSeq (dSet 6 (dCB F_met_holds (dCons (dBin fIx (dV 0) (dC (.int 3))) (dCons (dBin fIx (dV 1) (dC (.int 3))) (dNil))))) (dRet (dIf (dB (dBin (fIsN false) (dV 6) (dC .non))) (dC .non) (dTup (dCons (dBin fIx (dV 0) (dC (.int 0))) (dCons (dV 2) (dCons (dV 5) (dCons (dV 6) (dNil)))))))))))
def F_backing_both : List PV → Sto → Res PV := runF 2 7 d_backing_both
theorem sc_backing_both : FnScope (["one", "other", "ins", "mine", "its", "rows", "out"] : List Str) (["one", "other"] : List Str) (defScope s_backing_both) := ⟨rfl, rfl, rfl, by decide +kernel, rfl, by decide +kernel, by decide +kernel⟩
theorem fc_backing_both {Z : Wd} (B : Bi Z.mg) (hT : Z.T.lm = none) (h_check_alike : FC Z 9 "check_alike" F_check_alike) (h_raw_joined : FC Z 3 "raw_joined" F_raw_joined) (h_met_holds : FC Z 3 "met_holds" F_met_holds) (D : DefOk Z "backing_both" s_backing_both) : FC Z 10 "backing_both" F_backing_both := by
  have Sc := sc_backing_both
  exact D.fc Sc (fun _ _ _ _ _ _ us hl => match us, hl with | [_, _], _ => rfl) fun f cdv A outer s H E C => by exact (css_cons (cs_expr (ce_call h_check_alike C (by decide) rfl (ca_cons (ce_v 0) (ca_cons (ce_v 1) ca_nil)))) (css_cons (cs_set (i := 2) Sc.nd rfl (Or.inl rfl) (ce_callTy call_tuple_of sl_tuple rfl B.b_tuple PyProof.Rows.boot_tuple (ca_cons (ce_lcC false (fun h => nomatch h) C Sc.nd (ci_zip rfl B.b_zip (ca_cons (ce_ix (ce_v 0) ce_int (fun _ _ => rfl)) (ca_cons (ce_ix (ce_v 1) ce_int (fun _ _ => rfl)) ca_nil))) (show BlkOk (["one", "other", "ins", "mine", "its", "rows", "out"] : List Str) (defScope s_backing_both) _ [(("mine" : Str), 3), (("its" : Str), 4)] from blkOk_by (by decide +kernel)) (fun _ _ _ _ _ C => (pg_tup C.calm (pgs_cons (pg_name (i := 3) Sc.nd rfl (Or.inl rfl) (Or.inr rfl)) (pgs_cons (pg_name (i := 4) Sc.nd rfl (Or.inl rfl) (Or.inr rfl)) pgs_nil rfl) rfl) rfl rfl)) (tgc_tup (tgcs_cons (tgc_name (by decide)) (tgcs_cons (tgc_name (by decide)) tgcs_nil))) (fun _ _ _ _ _ _ => pts_yes) (fun _ _ _ _ _ C => (ce_call h_raw_joined C (by decide) rfl (ca_cons (ce_v 3) (ca_cons (ce_v 4) ca_nil))))) ca_nil))) (css_cons (cs_set (i := 5) Sc.nd rfl (Or.inl rfl) (ce_callTy call_tuple_of sl_tuple rfl B.b_tuple PyProof.Rows.boot_tuple (ca_cons (ce_lcC false (fun h => nomatch h) C Sc.nd (ci_zip rfl B.b_zip (ca_cons (ce_ix (ce_v 0) ce_int (fun _ _ => rfl)) (ca_cons (ce_ix (ce_v 1) ce_int (fun _ _ => rfl)) ca_nil))) (show BlkOk (["one", "other", "ins", "mine", "its", "rows", "out"] : List Str) (defScope s_backing_both) _ [(("mine" : Str), 3), (("its" : Str), 4)] from blkOk_by (by decide +kernel)) (fun _ _ _ _ _ C => (pg_tup C.calm (pgs_cons (pg_name (i := 3) Sc.nd rfl (Or.inl rfl) (Or.inr rfl)) (pgs_cons (pg_name (i := 4) Sc.nd rfl (Or.inl rfl) (Or.inr rfl)) pgs_nil rfl) rfl) rfl rfl)) (tgc_tup (tgcs_cons (tgc_name (by decide)) (tgcs_cons (tgc_name (by decide)) tgcs_nil))) (fun _ _ _ _ _ _ => pts_yes) (fun _ _ _ _ _ C => (ce_tup (ca_cons (ce_ix (ce_v 3) ce_int (fun _ _ => rfl)) (ca_cons (ce_call h_raw_joined C (by decide) rfl (ca_cons (ce_ix (ce_v 3) ce_int (fun _ _ => rfl)) (ca_cons (ce_ix (ce_v 4) ce_int (fun _ _ => rfl)) ca_nil))) ca_nil))))) ca_nil))) (css_cons (cs_set (i := 6) Sc.nd rfl (Or.inl rfl) (ce_call h_met_holds C (by decide) rfl (ca_cons (ce_ix (ce_v 0) ce_int (fun _ _ => rfl)) (ca_cons (ce_ix (ce_v 1) ce_int (fun _ _ => rfl)) ca_nil)))) (css_one (cs_ret (ce_if (ct_cmp op_isN sn_isN (ce_v 6) ce_non rfl) ce_non (ce_tup (ca_cons (ce_ix (ce_v 0) ce_int (fun _ _ => rfl)) (ca_cons (ce_v 2) (ca_cons (ce_v 5) (ca_cons (ce_v 6) ca_nil))))))))))))
/-! backed_by_both -/
abbrev s_backed_by_both : Stmt := top 41
def d_backed_by_both : EnP → Sto → SR := dSeq (dExpr (dCB F_check_alike (dCons (dV 0) (dCons (dV 1) (dNil))))) (dSeq (dSet 2 (dLc false (iZip2 (dCons (dBin fIx (dV 0) (dC (.int 1))) (dCons (dBin fIx (dV 1) (dC (.int 1))) (dNil)))) (cTup 2 (cCons (cNm 3) (cCons (cNm 4) (cNil)))) (dYes) (dCB F_met_holds (dCons (dV 3) (dCons (dV 4) (dNil)))) [3, 4])) (dSeq (dSet 5 (dLc false (iZip2 (dCons (dBin fIx (dV 0) (dC (.int 2))) (dCons (dBin fIx (dV 1) (dC (.int 2))) (dNil)))) (cTup 2 (cCons (cNm 3) (cCons (cNm 4) (cNil)))) (dYes) (dCB F_met_holds (dCons (dBin fIx (dV 3) (dC (.int 1))) (dCons (dBin fIx (dV 4) (dC (.int 1))) (dNil)))) [3, 4])) (dSeq (dIfS (bOr (dB (dBin (fInD false) (dC .non) (dV 2))) (dB (dBin (fInD false) (dC .non) (dV 5)))) (dRet (dC .non)) (dPass)) (dSeq (dSet 6 (dCB fTuple (dCons (dLc false (iZip2 (dCons (dBin fIx (dV 0) (dC (.int 2))) (dCons (dV 5) (dNil)))) (cTup 2 (cCons (cNm 7) (cCons (cNm 8) (cNil)))) (dYes) (dTup (dCons (dBin fIx (dV 7) (dC (.int 0))) (dCons (dV 8) (dNil)))) [7, 8]) (dNil)))) (dRet (dTup (dCons (dBin fIx (dV 0) (dC (.int 0))) (dCons (dCB fTuple (dCons (dV 2) (dNil))) (dCons (dV 6) (dCons (dCB F_raw_joined (dCons (dBin fIx (dV 0) (dC (.int 3))) (dCons (dBin fIx (dV 1) (dC (.int 3))) (dNil)))) (dNil)))))))))))
def F_backed_by_both : List PV → Sto → Res PV := runF 2 9 d_backed_by_both
theorem sc_backed_by_both : FnScope (["one", "other", "ins", "mine", "its", "cells", "rows", "row", "hold"] : List Str) (["one", "other"] : List Str) (defScope s_backed_by_both) := ⟨rfl, rfl, rfl, by decide +kernel, rfl, by decide +kernel, by decide +kernel⟩
theorem fc_backed_by_both {Z : Wd} (B : Bi Z.mg) (hT : Z.T.lm = none) (h_check_alike : FC Z 9 "check_alike" F_check_alike) (h_met_holds : FC Z 3 "met_holds" F_met_holds) (h_raw_joined : FC Z 3 "raw_joined" F_raw_joined) (D : DefOk Z "backed_by_both" s_backed_by_both) : FC Z 10 "backed_by_both" F_backed_by_both := by
  have Sc := sc_backed_by_both
  exact D.fc Sc (fun _ _ _ _ _ _ us hl => match us, hl with | [_, _], _ => rfl) fun f cdv A outer s H E C => by exact (css_cons (cs_expr (ce_call h_check_alike C (by decide) rfl (ca_cons (ce_v 0) (ca_cons (ce_v 1) ca_nil)))) (css_cons (cs_lcC false (fun h => nomatch h) C Sc.nd rfl rfl (sw_true rfl rfl rfl rfl) (ci_zip rfl B.b_zip (ca_cons (ce_ix (ce_v 0) ce_int (fun _ _ => rfl)) (ca_cons (ce_ix (ce_v 1) ce_int (fun _ _ => rfl)) ca_nil))) (show BlkOk (["one", "other", "ins", "mine", "its", "cells", "rows", "row", "hold"] : List Str) (defScope s_backed_by_both) _ [(("mine" : Str), 3), (("its" : Str), 4)] from blkOk_by (by decide +kernel)) (fun _ _ _ _ _ C => (pg_tup C.calm (pgs_cons (pg_name (i := 3) Sc.nd rfl (Or.inl rfl) (Or.inr rfl)) (pgs_cons (pg_name (i := 4) Sc.nd rfl (Or.inl rfl) (Or.inr rfl)) pgs_nil rfl) rfl) rfl rfl)) (tgc_tup (tgcs_cons (tgc_name (by decide)) (tgcs_cons (tgc_name (by decide)) tgcs_nil))) (fun _ _ _ _ _ _ => pts_yes) (fun _ _ _ _ _ C => (ce_call h_met_holds C (by decide) rfl (ca_cons (ce_v 3) (ca_cons (ce_v 4) ca_nil))))) (css_cons (cs_lcC false (fun h => nomatch h) C Sc.nd rfl rfl (sw_true rfl rfl rfl rfl) (ci_zip rfl B.b_zip (ca_cons (ce_ix (ce_v 0) ce_int (fun _ _ => rfl)) (ca_cons (ce_ix (ce_v 1) ce_int (fun _ _ => rfl)) ca_nil))) (show BlkOk (["one", "other", "ins", "mine", "its", "cells", "rows", "row", "hold"] : List Str) (defScope s_backed_by_both) _ [(("mine" : Str), 3), (("its" : Str), 4)] from blkOk_by (by decide +kernel)) (fun _ _ _ _ _ C => (pg_tup C.calm (pgs_cons (pg_name (i := 3) Sc.nd rfl (Or.inl rfl) (Or.inr rfl)) (pgs_cons (pg_name (i := 4) Sc.nd rfl (Or.inl rfl) (Or.inr rfl)) pgs_nil rfl) rfl) rfl rfl)) (tgc_tup (tgcs_cons (tgc_name (by decide)) (tgcs_cons (tgc_name (by decide)) tgcs_nil))) (fun _ _ _ _ _ _ => pts_yes) (fun _ _ _ _ _ C => (ce_call h_met_holds C (by decide) rfl (ca_cons (ce_ix (ce_v 3) ce_int (fun _ _ => rfl)) (ca_cons (ce_ix (ce_v 4) ce_int (fun _ _ => rfl)) ca_nil))))) (css_cons (cs_if (ct_w (cw_or (ct_cmp (op_inD (u65 C.u)) sn_inD ce_non (ce_v 2) rfl) (cw_or1 (ct_cmp (op_inD (u65 C.u)) sn_inD ce_non (ce_v 5) rfl)))) (css_one (cs_ret ce_non)) css_nil) (css_cons (cs_set (i := 6) Sc.nd rfl (Or.inl rfl) (ce_callTy call_tuple_of sl_tuple rfl B.b_tuple PyProof.Rows.boot_tuple (ca_cons (ce_lcC false (fun h => nomatch h) C Sc.nd (ci_zip rfl B.b_zip (ca_cons (ce_ix (ce_v 0) ce_int (fun _ _ => rfl)) (ca_cons (ce_v 5) ca_nil))) (show BlkOk (["one", "other", "ins", "mine", "its", "cells", "rows", "row", "hold"] : List Str) (defScope s_backed_by_both) _ [(("row" : Str), 7), (("hold" : Str), 8)] from blkOk_by (by decide +kernel)) (fun _ _ _ _ _ C => (pg_tup C.calm (pgs_cons (pg_name (i := 7) Sc.nd rfl (Or.inl rfl) (Or.inr rfl)) (pgs_cons (pg_name (i := 8) Sc.nd rfl (Or.inl rfl) (Or.inr rfl)) pgs_nil rfl) rfl) rfl rfl)) (tgc_tup (tgcs_cons (tgc_name (by decide)) (tgcs_cons (tgc_name (by decide)) tgcs_nil))) (fun _ _ _ _ _ _ => pts_yes) (fun _ _ _ _ _ C => (ce_tup (ca_cons (ce_ix (ce_v 7) ce_int (fun _ _ => rfl)) (ca_cons (ce_v 8) ca_nil))))) ca_nil))) (css_one (cs_ret (ce_tup (ca_cons (ce_ix (ce_v 0) ce_int (fun _ _ => rfl)) (ca_cons (ce_callTy call_tuple_of sl_tuple rfl B.b_tuple PyProof.Rows.boot_tuple (ca_cons (ce_v 2) ca_nil)) (ca_cons (ce_v 6) (ca_cons (ce_call h_raw_joined C (by decide) rfl (ca_cons (ce_ix (ce_v 0) ce_int (fun _ _ => rfl)) (ca_cons (ce_ix (ce_v 1) ce_int (fun _ _ => rfl)) ca_nil))) ca_nil))))))))))))
/-! _law_hand -/
abbrev s_law_hand_L : Stmt := top 43
def d_law_hand_L : EnP → Sto → SR := dSeq (dSet 1 (dLc false (iSeq (dSl false (dV 0) (dNoPart) (dPart (dC (.int 63))))) (cNm 2) (dYes) (dBin fMod (dCB fInt (dCons (dCB fAbs (dCons (dCB fInt (dCons (dV 2) (dNil))) (dNil))) (dNil))) (dBin fPow (dC (.int 10)) (dC (.int 36)))) [2])) (dRet (dLst true (dCons (dV 1) (dCons (dC (.int 0)) (dCons (dC (.int 0)) (dCons (dBin (fAdd false) (dC (.int 73)) (dBin (fMul false) (dC (.int 5)) (dCB fLen (dCons (dV 1) (dNil))))) (dCons (dC (.int 0)) (dNil))))))))
def F_law_hand_L : List PV → Sto → Res PV := runF 1 3 d_law_hand_L
theorem sc_law_hand_L : FnScope (["script", "cells", "cell"] : List Str) (["script"] : List Str) (defScope s_law_hand_L) := ⟨rfl, rfl, rfl, by decide +kernel, rfl, by decide +kernel, by decide +kernel⟩
theorem fc_law_hand_L {Z : Wd} (B : Bi Z.mg) (hT : Z.T.lm = none) (D : DefOk Z "_law_hand" s_law_hand_L) : FC Z 1 "_law_hand" F_law_hand_L := by
  have Sc := sc_law_hand_L
  exact D.fc Sc (fun _ _ _ _ _ _ us hl => match us, hl with | [_], _ => rfl) fun f cdv A outer s H E C => by exact (css_cons (cs_lcC false (fun h => nomatch h) C Sc.nd rfl rfl (sw_true rfl rfl rfl rfl) (ci_seq (ce_sl false (fun h => nomatch h) (ce_v 0) co_none (co_some ce_int))) (show BlkOk (["script", "cells", "cell"] : List Str) (defScope s_law_hand_L) _ [(("cell" : Str), 2)] from blkOk_by (by decide +kernel)) (fun _ _ _ _ _ C => (pg_name (i := 2) Sc.nd rfl (Or.inl rfl) (Or.inr rfl))) (tgc_name (by decide)) (fun _ _ _ _ _ _ => pts_yes) (fun _ _ _ _ _ C => (ce_bin op_modN sn_mod (ce_callTy call_int1 sl_int rfl B.b_int PyProof.Rows.boot_int (ca_cons (ce_callB call_abs sl_abs rfl B.b_abs PyProof.Rows.boot_abs (ca_cons (ce_callTy call_int1 sl_int rfl B.b_int PyProof.Rows.boot_int (ca_cons (ce_v 2) ca_nil)) ca_nil)) ca_nil)) (ce_bin op_pow sn_pow ce_int ce_int)))) (css_one (cs_ret (ce_lst true (fun _ => gm_bare C.room.hd hT) (ca_cons (ce_v 1) (ca_cons ce_int (ca_cons ce_int (ca_cons (ce_bin op_addM (sn_add false (fun h => nomatch h)) ce_int (ce_bin op_mulM (sn_mul false (fun h => nomatch h)) ce_int (ce_callB call_len sl_len rfl B.b_len (by decide +kernel) (ca_cons (ce_v 1) ca_nil)))) (ca_cons ce_int ca_nil)))))))))
/-! _law_draw -/
abbrev s_law_draw_L : Stmt := top 44
def d_law_draw_L : EnP → Sto → SR := dSeq (dIfS (bAnd (dB (dBin (fEq false) (dBin fIx (dV 0) (dC (.int 2))) (dC (.int 0)))) (dB (dBin (fCmpI iLt) (dBin fIx (dV 0) (dC (.int 1))) (dCB fLen (dCons (dBin fIx (dV 0) (dC (.int 0))) (dNil)))))) (dSeq (dSet 2 (dBin fIx (dBin fIx (dV 0) (dC (.int 0))) (dBin fIx (dV 0) (dC (.int 1))))) (dSeq (dAsg (dBin (fAdd false) (dBin fIx (dV 0) (dC (.int 1))) (dC (.int 1))) (gIx (dV 0) (dC (.int 1)))) (dSeq (dAsg (dBin fMod (dCB fInt (dCons (dBin (fAdd false) (dBin (fAdd false) (dBin (fMul false) (dBin fIx (dV 0) (dC (.int 3))) (dC (.int 69621))) (dBin (fMul false) (dV 2) (dC (.int 40692)))) (dC (.int 37))) (dNil))) (dC (.int 2147483629))) (gIx (dV 0) (dC (.int 3)))) (dIfS (dB (dBin (fCmpI iGe) (dV 2) (dBin fPow (dC (.int 10)) (dC (.int 18))))) (dAsg (dV 2) (gIx (dV 0) (dC (.int 2)))) (dPass))))) (dPass)) (dSeq (dIfS (dB (dBin (fCmpI iGt) (dBin fIx (dV 0) (dC (.int 2))) (dC (.int 0)))) (dSeq (dSet 3 (dBin fMod (dCB fInt (dCons (dBin fIx (dV 0) (dC (.int 2))) (dNil))) (dV 1))) (dSeq (dAsg (dBin fDiv (dBin fIx (dV 0) (dC (.int 2))) (dV 1)) (gIx (dV 0) (dC (.int 2)))) (dRet (dV 3)))) (dPass)) (dSeq (dAsg (dBin (fAdd false) (dBin fIx (dV 0) (dC (.int 4))) (dC (.int 1))) (gIx (dV 0) (dC (.int 4)))) (dSeq (dSet 4 (dBin fMod (dCB fInt (dCons (dBin (fMul false) (dCB fInt (dCons (dBin (fAdd false) (dBin fIx (dV 0) (dC (.int 3))) (dBin (fMul false) (dC (.int 7919)) (dBin fIx (dV 0) (dC (.int 4))))) (dNil))) (dC (.int 48271))) (dNil))) (dC (.int 2147483647)))) (dSeq (dSet 4 (dBin fMod (dCB fInt (dCons (dBin (fMul false) (dV 4) (dBin (fAdd false) (dBin fDiv (dV 4) (dC (.int 1009))) (dC (.int 69621)))) (dNil))) (dC (.int 2147483647)))) (dSeq (dSet 4 (dBin fMod (dCB fInt (dCons (dBin (fMul false) (dV 4) (dBin (fAdd false) (dBin fDiv (dV 4) (dC (.int 2003))) (dC (.int 40014)))) (dNil))) (dC (.int 2147483563)))) (dRet (dBin fMod (dCB fInt (dCons (dBin fDiv (dV 4) (dC (.int 16))) (dNil))) (dV 1))))))))
def F_law_draw_L : List PV → Sto → Res PV := runF 2 5 d_law_draw_L
theorem sc_law_draw_L : FnScope (["hand", "below", "cell", "digit", "mixed"] : List Str) (["hand", "below"] : List Str) (defScope s_law_draw_L) := ⟨rfl, rfl, rfl, by decide +kernel, rfl, by decide +kernel, by decide +kernel⟩
theorem fc_law_draw_L {Z : Wd} (B : Bi Z.mg) (hT : Z.T.lm = none) (D : DefOk Z "_law_draw" s_law_draw_L) : FC Z 1 "_law_draw" F_law_draw_L := by
  have Sc := sc_law_draw_L
  exact D.fc Sc (fun _ _ _ _ _ _ us hl => match us, hl with | [_, _], _ => rfl) fun f cdv A outer s H E C => by exact (css_cons (cs_if (ct_w (cw_and (ct_cmp (op_eqD (u64 C.u)) sn_eq (ce_ix (ce_v 0) ce_int (fun _ _ => rfl)) ce_int rfl) (cw_and1 (ct_cmp op_lt (sn_cmpI iLt) (ce_ix (ce_v 0) ce_int (fun _ _ => rfl)) (ce_callB call_len sl_len rfl B.b_len (by decide +kernel) (ca_cons (ce_ix (ce_v 0) ce_int (fun _ _ => rfl)) ca_nil)) rfl)))) (css_cons (cs_set (i := 2) Sc.nd rfl (Or.inl rfl) (ce_ix (ce_ix (ce_v 0) ce_int (fun _ _ => rfl)) (ce_ix (ce_v 0) ce_int (fun _ _ => rfl)) (fun _ _ => rfl))) (css_cons (cs_asg (ce_bin op_addM (sn_add false (fun h => nomatch h)) (ce_ix (ce_v 0) ce_int (fun _ _ => rfl)) ce_int) (cg_ix (gm_bare C.room.hd hT) (ce_v 0) ce_int)) (css_cons (cs_asg (ce_bin op_modN sn_mod (ce_callTy call_int1 sl_int rfl B.b_int PyProof.Rows.boot_int (ca_cons (ce_bin op_addM (sn_add false (fun h => nomatch h)) (ce_bin op_addM (sn_add false (fun h => nomatch h)) (ce_bin op_mulM (sn_mul false (fun h => nomatch h)) (ce_ix (ce_v 0) ce_int (fun _ _ => rfl)) ce_int) (ce_bin op_mulM (sn_mul false (fun h => nomatch h)) (ce_v 2) ce_int)) ce_int) ca_nil)) ce_int) (cg_ix (gm_bare C.room.hd hT) (ce_v 0) ce_int)) (css_one (cs_if (ct_cmp op_ge (sn_cmpI iGe) (ce_v 2) (ce_bin op_pow sn_pow ce_int ce_int) rfl) (css_one (cs_asg (ce_v 2) (cg_ix (gm_bare C.room.hd hT) (ce_v 0) ce_int))) css_nil))))) css_nil) (css_cons (cs_if (ct_cmp op_gt (sn_cmpI iGt) (ce_ix (ce_v 0) ce_int (fun _ _ => rfl)) ce_int rfl) (css_cons (cs_set (i := 3) Sc.nd rfl (Or.inl rfl) (ce_bin op_modN sn_mod (ce_callTy call_int1 sl_int rfl B.b_int PyProof.Rows.boot_int (ca_cons (ce_ix (ce_v 0) ce_int (fun _ _ => rfl)) ca_nil)) (ce_v 1))) (css_cons (cs_asg (ce_bin op_fdivA sn_div (ce_ix (ce_v 0) ce_int (fun _ _ => rfl)) (ce_v 1)) (cg_ix (gm_bare C.room.hd hT) (ce_v 0) ce_int)) (css_one (cs_ret (ce_v 3))))) css_nil) (css_cons (cs_asg (ce_bin op_addM (sn_add false (fun h => nomatch h)) (ce_ix (ce_v 0) ce_int (fun _ _ => rfl)) ce_int) (cg_ix (gm_bare C.room.hd hT) (ce_v 0) ce_int)) (css_cons (cs_set (i := 4) Sc.nd rfl (Or.inl rfl) (ce_bin op_modN sn_mod (ce_callTy call_int1 sl_int rfl B.b_int PyProof.Rows.boot_int (ca_cons (ce_bin op_mulM (sn_mul false (fun h => nomatch h)) (ce_callTy call_int1 sl_int rfl B.b_int PyProof.Rows.boot_int (ca_cons (ce_bin op_addM (sn_add false (fun h => nomatch h)) (ce_ix (ce_v 0) ce_int (fun _ _ => rfl)) (ce_bin op_mulM (sn_mul false (fun h => nomatch h)) ce_int (ce_ix (ce_v 0) ce_int (fun _ _ => rfl)))) ca_nil)) ce_int) ca_nil)) ce_int)) (css_cons (cs_set (i := 4) Sc.nd rfl (Or.inl rfl) (ce_bin op_modN sn_mod (ce_callTy call_int1 sl_int rfl B.b_int PyProof.Rows.boot_int (ca_cons (ce_bin op_mulM (sn_mul false (fun h => nomatch h)) (ce_v 4) (ce_bin op_addM (sn_add false (fun h => nomatch h)) (ce_bin op_fdivA sn_div (ce_v 4) ce_int) ce_int)) ca_nil)) ce_int)) (css_cons (cs_set (i := 4) Sc.nd rfl (Or.inl rfl) (ce_bin op_modN sn_mod (ce_callTy call_int1 sl_int rfl B.b_int PyProof.Rows.boot_int (ca_cons (ce_bin op_mulM (sn_mul false (fun h => nomatch h)) (ce_v 4) (ce_bin op_addM (sn_add false (fun h => nomatch h)) (ce_bin op_fdivA sn_div (ce_v 4) ce_int) ce_int)) ca_nil)) ce_int)) (css_one (cs_ret (ce_bin op_modN sn_mod (ce_callTy call_int1 sl_int rfl B.b_int PyProof.Rows.boot_int (ca_cons (ce_bin op_fdivA sn_div (ce_v 4) ce_int) ca_nil)) (ce_v 1))))))))))
/-! _law_any -/
abbrev s_law_any_L : Stmt := top 45
def d_law_any_L : EnP → Sto → SR := dRet (dBin fIx (dV 1) (dCB F_law_draw_L (dCons (dV 0) (dCons (dCB fLen (dCons (dV 1) (dNil))) (dNil)))))
def F_law_any_L : List PV → Sto → Res PV := runF 2 2 d_law_any_L
theorem sc_law_any_L : FnScope (["hand", "some"] : List Str) (["hand", "some"] : List Str) (defScope s_law_any_L) := ⟨rfl, rfl, rfl, by decide +kernel, rfl, by decide +kernel, by decide +kernel⟩
theorem fc_law_any_L {Z : Wd} (B : Bi Z.mg) (hT : Z.T.lm = none) (h_law_draw_L : FC Z 1 "_law_draw" F_law_draw_L) (D : DefOk Z "_law_any" s_law_any_L) : FC Z 2 "_law_any" F_law_any_L := by
  have Sc := sc_law_any_L
  exact D.fc Sc (fun _ _ _ _ _ _ us hl => match us, hl with | [_, _], _ => rfl) fun f cdv A outer s H E C => by exact (css_one (cs_ret (ce_ix (ce_v 1) (ce_call h_law_draw_L C (by decide) rfl (ca_cons (ce_v 0) (ca_cons (ce_callB call_len sl_len rfl B.b_len (by decide +kernel) (ca_cons (ce_v 1) ca_nil)) ca_nil))) (fun _ _ => rfl))))
/-! _law_low -/
abbrev s_law_low_L : Stmt := top 46
def d_law_low_L : EnP → Sto → SR := dSeq (dPar 2 3 (dCons (dCB fAbs (dCons (dV 0) (dNil))) (dCons (dV 1) (dNil)))) (dSeq (whileP (dB (dBin (fCmpI iGt) (dV 3) (dC (.int 0)))) (dPar 2 3 (dCons (dV 3) (dCons (dBin fMod (dCB fInt (dCons (dV 2) (dNil))) (dV 3)) (dNil)))) fuel) (dRet (dTup (dCons (dBin fDiv (dV 0) (dV 2)) (dCons (dBin fDiv (dV 1) (dV 2)) (dNil))))))
def F_law_low_L : List PV → Sto → Res PV := runF 2 4 d_law_low_L
theorem sc_law_low_L : FnScope (["top", "bottom", "one", "other"] : List Str) (["top", "bottom"] : List Str) (defScope s_law_low_L) := ⟨rfl, rfl, rfl, by decide +kernel, rfl, by decide +kernel, by decide +kernel⟩
theorem fc_law_low_L {Z : Wd} (B : Bi Z.mg) (hT : Z.T.lm = none) (D : DefOk Z "_law_low" s_law_low_L) : FC Z 1 "_law_low" F_law_low_L := by
  have Sc := sc_law_low_L
  exact D.fc Sc (fun _ _ _ _ _ _ us hl => match us, hl with | [_, _], _ => rfl) fun f cdv A outer s H E C => by exact (css_cons (cs_par (i := 2) (j := 3) C.calm Sc.nd rfl rfl (by decide) rfl rfl (ca_cons (ce_callB call_abs sl_abs rfl B.b_abs PyProof.Rows.boot_abs (ca_cons (ce_v 0) ca_nil)) (ca_cons (ce_v 1) ca_nil)) rfl) (css_cons (cs_while fuel C.po (ct_cmp op_gt (sn_cmpI iGt) (ce_v 3) ce_int rfl) (css_one (cs_par (i := 2) (j := 3) C.calm Sc.nd rfl rfl (by decide) rfl rfl (ca_cons (ce_v 3) (ca_cons (ce_bin op_modN sn_mod (ce_callTy call_int1 sl_int rfl B.b_int PyProof.Rows.boot_int (ca_cons (ce_v 2) ca_nil)) (ce_v 3)) ca_nil)) rfl))) (css_one (cs_ret (ce_tup (ca_cons (ce_bin op_fdivA sn_div (ce_v 0) (ce_v 2)) (ca_cons (ce_bin op_fdivA sn_div (ce_v 1) (ce_v 2)) ca_nil)))))))
/-! _law_plus -/
abbrev s_law_plus_L : Stmt := top 47
def d_law_plus_L : EnP → Sto → SR := dRet (dCB F_law_low_L (dCons (dBin (fAdd false) (dBin (fMul false) (dBin fIx (dV 0) (dC (.int 0))) (dBin fIx (dV 1) (dC (.int 1)))) (dBin (fMul false) (dBin fIx (dV 1) (dC (.int 0))) (dBin fIx (dV 0) (dC (.int 1))))) (dCons (dBin (fMul false) (dBin fIx (dV 0) (dC (.int 1))) (dBin fIx (dV 1) (dC (.int 1)))) (dNil))))
def F_law_plus_L : List PV → Sto → Res PV := runF 2 2 d_law_plus_L
theorem sc_law_plus_L : FnScope (["one", "other"] : List Str) (["one", "other"] : List Str) (defScope s_law_plus_L) := ⟨rfl, rfl, rfl, by decide +kernel, rfl, by decide +kernel, by decide +kernel⟩
theorem fc_law_plus_L {Z : Wd} (B : Bi Z.mg) (hT : Z.T.lm = none) (h_law_low_L : FC Z 1 "_law_low" F_law_low_L) (D : DefOk Z "_law_plus" s_law_plus_L) : FC Z 2 "_law_plus" F_law_plus_L := by
  have Sc := sc_law_plus_L
  exact D.fc Sc (fun _ _ _ _ _ _ us hl => match us, hl with | [_, _], _ => rfl) fun f cdv A outer s H E C => by exact (css_one (cs_ret (ce_call h_law_low_L C (by decide) rfl (ca_cons (ce_bin op_addM (sn_add false (fun h => nomatch h)) (ce_bin op_mulM (sn_mul false (fun h => nomatch h)) (ce_ix (ce_v 0) ce_int (fun _ _ => rfl)) (ce_ix (ce_v 1) ce_int (fun _ _ => rfl))) (ce_bin op_mulM (sn_mul false (fun h => nomatch h)) (ce_ix (ce_v 1) ce_int (fun _ _ => rfl)) (ce_ix (ce_v 0) ce_int (fun _ _ => rfl)))) (ca_cons (ce_bin op_mulM (sn_mul false (fun h => nomatch h)) (ce_ix (ce_v 0) ce_int (fun _ _ => rfl)) (ce_ix (ce_v 1) ce_int (fun _ _ => rfl))) ca_nil)))))
/-! _law_lesser -/
abbrev s_law_lesser_L : Stmt := top 48
def d_law_lesser_L : EnP → Sto → SR := dRet (dIf (dB (dBin (fCmpI iLe) (dBin (fMul false) (dBin fIx (dV 0) (dC (.int 0))) (dBin fIx (dV 1) (dC (.int 1)))) (dBin (fMul false) (dBin fIx (dV 1) (dC (.int 0))) (dBin fIx (dV 0) (dC (.int 1)))))) (dV 0) (dV 1))
def F_law_lesser_L : List PV → Sto → Res PV := runF 2 2 d_law_lesser_L
theorem sc_law_lesser_L : FnScope (["one", "other"] : List Str) (["one", "other"] : List Str) (defScope s_law_lesser_L) := ⟨rfl, rfl, rfl, by decide +kernel, rfl, by decide +kernel, by decide +kernel⟩
theorem fc_law_lesser_L {Z : Wd} (B : Bi Z.mg) (hT : Z.T.lm = none) (D : DefOk Z "_law_lesser" s_law_lesser_L) : FC Z 1 "_law_lesser" F_law_lesser_L := by
  have Sc := sc_law_lesser_L
  exact D.fc Sc (fun _ _ _ _ _ _ us hl => match us, hl with | [_, _], _ => rfl) fun f cdv A outer s H E C => by exact (css_one (cs_ret (ce_if (ct_cmp op_le (sn_cmpI iLe) (ce_bin op_mulM (sn_mul false (fun h => nomatch h)) (ce_ix (ce_v 0) ce_int (fun _ _ => rfl)) (ce_ix (ce_v 1) ce_int (fun _ _ => rfl))) (ce_bin op_mulM (sn_mul false (fun h => nomatch h)) (ce_ix (ce_v 1) ce_int (fun _ _ => rfl)) (ce_ix (ce_v 0) ce_int (fun _ _ => rfl))) rfl) (ce_v 0) (ce_v 1))))
/-! _law_greater -/
abbrev s_law_greater_L : Stmt := top 49
def d_law_greater_L : EnP → Sto → SR := dRet (dIf (dB (dBin (fCmpI iLe) (dBin (fMul false) (dBin fIx (dV 0) (dC (.int 0))) (dBin fIx (dV 1) (dC (.int 1)))) (dBin (fMul false) (dBin fIx (dV 1) (dC (.int 0))) (dBin fIx (dV 0) (dC (.int 1)))))) (dV 1) (dV 0))
def F_law_greater_L : List PV → Sto → Res PV := runF 2 2 d_law_greater_L
theorem sc_law_greater_L : FnScope (["one", "other"] : List Str) (["one", "other"] : List Str) (defScope s_law_greater_L) := ⟨rfl, rfl, rfl, by decide +kernel, rfl, by decide +kernel, by decide +kernel⟩
theorem fc_law_greater_L {Z : Wd} (B : Bi Z.mg) (hT : Z.T.lm = none) (D : DefOk Z "_law_greater" s_law_greater_L) : FC Z 1 "_law_greater" F_law_greater_L := by
  have Sc := sc_law_greater_L
  exact D.fc Sc (fun _ _ _ _ _ _ us hl => match us, hl with | [_, _], _ => rfl) fun f cdv A outer s H E C => by exact (css_one (cs_ret (ce_if (ct_cmp op_le (sn_cmpI iLe) (ce_bin op_mulM (sn_mul false (fun h => nomatch h)) (ce_ix (ce_v 0) ce_int (fun _ _ => rfl)) (ce_ix (ce_v 1) ce_int (fun _ _ => rfl))) (ce_bin op_mulM (sn_mul false (fun h => nomatch h)) (ce_ix (ce_v 1) ce_int (fun _ _ => rfl)) (ce_ix (ce_v 0) ce_int (fun _ _ => rfl))) rfl) (ce_v 1) (ce_v 0))))
/-! _law_hold -/
abbrev s_law_hold_L : Stmt := top 50
def d_law_hold_L : EnP → Sto → SR := dSeq (dSet 1 (dCB F_law_low_L (dCons (dBin fSub (dCB F_law_draw_L (dCons (dV 0) (dCons (dC (.int 7)) (dNil)))) (dC (.int 3))) (dCons (dBin (fAdd false) (dC (.int 1)) (dCB F_law_draw_L (dCons (dV 0) (dCons (dC (.int 2)) (dNil))))) (dNil))))) (dSeq (dSet 2 (dCB F_law_low_L (dCons (dCB F_law_draw_L (dCons (dV 0) (dCons (dC (.int 7)) (dNil)))) (dCons (dBin (fAdd false) (dC (.int 1)) (dCB F_law_draw_L (dCons (dV 0) (dCons (dC (.int 2)) (dNil))))) (dNil))))) (dRet (dTup (dCons (dV 1) (dCons (dCB F_law_plus_L (dCons (dV 1) (dCons (dV 2) (dNil)))) (dCons (dCB F_law_low_L (dCons (dCB F_law_draw_L (dCons (dV 0) (dCons (dC (.int 4)) (dNil)))) (dCons (dBin (fAdd false) (dC (.int 1)) (dCB F_law_draw_L (dCons (dV 0) (dCons (dC (.int 8)) (dNil))))) (dNil)))) (dNil)))))))
def F_law_hold_L : List PV → Sto → Res PV := runF 1 3 d_law_hold_L
theorem sc_law_hold_L : FnScope (["hand", "low", "wide"] : List Str) (["hand"] : List Str) (defScope s_law_hold_L) := ⟨rfl, rfl, rfl, by decide +kernel, rfl, by decide +kernel, by decide +kernel⟩
theorem fc_law_hold_L {Z : Wd} (B : Bi Z.mg) (hT : Z.T.lm = none) (h_law_low_L : FC Z 1 "_law_low" F_law_low_L) (h_law_draw_L : FC Z 1 "_law_draw" F_law_draw_L) (h_law_plus_L : FC Z 2 "_law_plus" F_law_plus_L) (D : DefOk Z "_law_hold" s_law_hold_L) : FC Z 3 "_law_hold" F_law_hold_L := by
  have Sc := sc_law_hold_L
  exact D.fc Sc (fun _ _ _ _ _ _ us hl => match us, hl with | [_], _ => rfl) fun f cdv A outer s H E C => by exact (css_cons (cs_set (i := 1) Sc.nd rfl (Or.inl rfl) (ce_call h_law_low_L C (by decide) rfl (ca_cons (ce_bin op_sub sn_sub (ce_call h_law_draw_L C (by decide) rfl (ca_cons (ce_v 0) (ca_cons ce_int ca_nil))) ce_int) (ca_cons (ce_bin op_addM (sn_add false (fun h => nomatch h)) ce_int (ce_call h_law_draw_L C (by decide) rfl (ca_cons (ce_v 0) (ca_cons ce_int ca_nil)))) ca_nil)))) (css_cons (cs_set (i := 2) Sc.nd rfl (Or.inl rfl) (ce_call h_law_low_L C (by decide) rfl (ca_cons (ce_call h_law_draw_L C (by decide) rfl (ca_cons (ce_v 0) (ca_cons ce_int ca_nil))) (ca_cons (ce_bin op_addM (sn_add false (fun h => nomatch h)) ce_int (ce_call h_law_draw_L C (by decide) rfl (ca_cons (ce_v 0) (ca_cons ce_int ca_nil)))) ca_nil)))) (css_one (cs_ret (ce_tup (ca_cons (ce_v 1) (ca_cons (ce_call h_law_plus_L C (by decide) rfl (ca_cons (ce_v 1) (ca_cons (ce_v 2) ca_nil))) (ca_cons (ce_call h_law_low_L C (by decide) rfl (ca_cons (ce_call h_law_draw_L C (by decide) rfl (ca_cons (ce_v 0) (ca_cons ce_int ca_nil))) (ca_cons (ce_bin op_addM (sn_add false (fun h => nomatch h)) ce_int (ce_call h_law_draw_L C (by decide) rfl (ca_cons (ce_v 0) (ca_cons ce_int ca_nil)))) ca_nil))) ca_nil))))))))
/-! _law_shape -/
abbrev s_law_shape_L : Stmt := top 51
def d_law_shape_L : EnP → Sto → SR := dRet (dTup (dCons (dCB F_law_draw_L (dCons (dV 0) (dCons (dC (.int 3)) (dNil)))) (dCons (dCB fTuple (dCons (dLc false (iRange (dCons (dCB F_law_draw_L (dCons (dV 0) (dCons (dC (.int 3)) (dNil)))) (dNil))) (cNm 1) (dYes) (dBin (fAdd false) (dC (.int 1)) (dCB F_law_draw_L (dCons (dV 0) (dCons (dC (.int 3)) (dNil))))) [1]) (dNil))) (dNil))))
def F_law_shape_L : List PV → Sto → Res PV := runF 1 2 d_law_shape_L
theorem sc_law_shape_L : FnScope (["hand", "row"] : List Str) (["hand"] : List Str) (defScope s_law_shape_L) := ⟨rfl, rfl, rfl, by decide +kernel, rfl, by decide +kernel, by decide +kernel⟩
theorem fc_law_shape_L {Z : Wd} (B : Bi Z.mg) (hT : Z.T.lm = none) (h_law_draw_L : FC Z 1 "_law_draw" F_law_draw_L) (D : DefOk Z "_law_shape" s_law_shape_L) : FC Z 2 "_law_shape" F_law_shape_L := by
  have Sc := sc_law_shape_L
  exact D.fc Sc (fun _ _ _ _ _ _ us hl => match us, hl with | [_], _ => rfl) fun f cdv A outer s H E C => by exact (css_one (cs_ret (ce_tup (ca_cons (ce_call h_law_draw_L C (by decide) rfl (ca_cons (ce_v 0) (ca_cons ce_int ca_nil))) (ca_cons (ce_callTy call_tuple_of sl_tuple rfl B.b_tuple PyProof.Rows.boot_tuple (ca_cons (ce_lcC false (fun h => nomatch h) C Sc.nd (ci_range1 rfl B.b_range (ca_cons (ce_call h_law_draw_L C (by decide) rfl (ca_cons (ce_v 0) (ca_cons ce_int ca_nil))) ca_nil) rfl len1) (show BlkOk (["hand", "row"] : List Str) (defScope s_law_shape_L) _ [(("row" : Str), 1)] from blkOk_by (by decide +kernel)) (fun _ _ _ _ _ C => (pg_name (i := 1) Sc.nd rfl (Or.inl rfl) (Or.inr rfl))) (tgc_name (by decide)) (fun _ _ _ _ _ _ => pts_yes) (fun _ _ _ _ _ C => (ce_bin op_addM (sn_add false (fun h => nomatch h)) ce_int (ce_call h_law_draw_L C (by decide) rfl (ca_cons (ce_v 0) (ca_cons ce_int ca_nil)))))) ca_nil)) ca_nil)))))
/-! _law_promise -/
abbrev s_law_promise_L : Stmt := top 52
def d_law_promise_L : EnP → Sto → SR := dSeq (dSet 2 (dCB fTuple (dCons (dLc false (iRange (dCons (dBin fIx (dV 1) (dC (.int 0))) (dNil))) (cNm 3) (dYes) (dCB F_law_hold_L (dCons (dV 0) (dNil))) [3]) (dNil)))) (dSeq (dSet 4 (dCB fTuple (dCons (dLc false (iSeq (dBin fIx (dV 1) (dC (.int 1)))) (cNm 5) (dYes) (dTup (dCons (dV 5) (dCons (dCB F_law_hold_L (dCons (dV 0) (dNil))) (dNil)))) [5]) (dNil)))) (dRet (dTup (dCons (dCB F_law_any_L (dCons (dV 0) (dCons (dLst false (dCons (dC (.str ("a" : Str))) (dCons (dC (.str ("bb" : Str))) (dCons (dC (.str ("proc" : Str))) (dNil))))) (dNil)))) (dCons (dV 2) (dCons (dV 4) (dCons (dCB F_law_hold_L (dCons (dV 0) (dNil))) (dNil))))))))
def F_law_promise_L : List PV → Sto → Res PV := runF 2 6 d_law_promise_L
theorem sc_law_promise_L : FnScope (["hand", "shape", "ins", "one", "rows", "long"] : List Str) (["hand", "shape"] : List Str) (defScope s_law_promise_L) := ⟨rfl, rfl, rfl, by decide +kernel, rfl, by decide +kernel, by decide +kernel⟩
theorem fc_law_promise_L {Z : Wd} (B : Bi Z.mg) (hT : Z.T.lm = none) (h_law_hold_L : FC Z 3 "_law_hold" F_law_hold_L) (h_law_any_L : FC Z 2 "_law_any" F_law_any_L) (D : DefOk Z "_law_promise" s_law_promise_L) : FC Z 4 "_law_promise" F_law_promise_L := by
  have Sc := sc_law_promise_L
  exact D.fc Sc (fun _ _ _ _ _ _ us hl => match us, hl with | [_, _], _ => rfl) fun f cdv A outer s H E C => by exact (css_cons (cs_set (i := 2) Sc.nd rfl (Or.inl rfl) (ce_callTy call_tuple_of sl_tuple rfl B.b_tuple PyProof.Rows.boot_tuple (ca_cons (ce_lcC false (fun h => nomatch h) C Sc.nd (ci_range1 rfl B.b_range (ca_cons (ce_ix (ce_v 1) ce_int (fun _ _ => rfl)) ca_nil) rfl len1) (show BlkOk (["hand", "shape", "ins", "one", "rows", "long"] : List Str) (defScope s_law_promise_L) _ [(("one" : Str), 3)] from blkOk_by (by decide +kernel)) (fun _ _ _ _ _ C => (pg_name (i := 3) Sc.nd rfl (Or.inl rfl) (Or.inr rfl))) (tgc_name (by decide)) (fun _ _ _ _ _ _ => pts_yes) (fun _ _ _ _ _ C => (ce_call h_law_hold_L C (by decide) rfl (ca_cons (ce_v 0) ca_nil)))) ca_nil))) (css_cons (cs_set (i := 4) Sc.nd rfl (Or.inl rfl) (ce_callTy call_tuple_of sl_tuple rfl B.b_tuple PyProof.Rows.boot_tuple (ca_cons (ce_lcC false (fun h => nomatch h) C Sc.nd (ci_seq (ce_ix (ce_v 1) ce_int (fun _ _ => rfl))) (show BlkOk (["hand", "shape", "ins", "one", "rows", "long"] : List Str) (defScope s_law_promise_L) _ [(("long" : Str), 5)] from blkOk_by (by decide +kernel)) (fun _ _ _ _ _ C => (pg_name (i := 5) Sc.nd rfl (Or.inl rfl) (Or.inr rfl))) (tgc_name (by decide)) (fun _ _ _ _ _ _ => pts_yes) (fun _ _ _ _ _ C => (ce_tup (ca_cons (ce_v 5) (ca_cons (ce_call h_law_hold_L C (by decide) rfl (ca_cons (ce_v 0) ca_nil)) ca_nil))))) ca_nil))) (css_one (cs_ret (ce_tup (ca_cons (ce_call h_law_any_L C (by decide) rfl (ca_cons (ce_v 0) (ca_cons (ce_lst false (fun h => nomatch h) (ca_cons ce_str (ca_cons ce_str (ca_cons ce_str ca_nil)))) ca_nil))) (ca_cons (ce_v 2) (ca_cons (ce_v 4) (ca_cons (ce_call h_law_hold_L C (by decide) rfl (ca_cons (ce_v 0) ca_nil)) ca_nil)))))))))
/-! _law_union -/
abbrev s_law_union_L : Stmt := top 53
def d_law_union_L : EnP → Sto → SR := dRet (dTup (dCons (dCB F_law_lesser_L (dCons (dBin fIx (dV 0) (dC (.int 0))) (dCons (dBin fIx (dV 1) (dC (.int 0))) (dNil)))) (dCons (dCB F_law_greater_L (dCons (dBin fIx (dV 0) (dC (.int 1))) (dCons (dBin fIx (dV 1) (dC (.int 1))) (dNil)))) (dCons (dCB F_law_greater_L (dCons (dBin fIx (dV 0) (dC (.int 2))) (dCons (dBin fIx (dV 1) (dC (.int 2))) (dNil)))) (dNil)))))
def F_law_union_L : List PV → Sto → Res PV := runF 2 2 d_law_union_L
theorem sc_law_union_L : FnScope (["one", "other"] : List Str) (["one", "other"] : List Str) (defScope s_law_union_L) := ⟨rfl, rfl, rfl, by decide +kernel, rfl, by decide +kernel, by decide +kernel⟩
theorem fc_law_union_L {Z : Wd} (B : Bi Z.mg) (hT : Z.T.lm = none) (h_law_greater_L : FC Z 1 "_law_greater" F_law_greater_L) (h_law_lesser_L : FC Z 1 "_law_lesser" F_law_lesser_L) (D : DefOk Z "_law_union" s_law_union_L) : FC Z 2 "_law_union" F_law_union_L := by
  have Sc := sc_law_union_L
  exact D.fc Sc (fun _ _ _ _ _ _ us hl => match us, hl with | [_, _], _ => rfl) fun f cdv A outer s H E C => by exact (css_one (cs_ret (ce_tup (ca_cons (ce_call h_law_lesser_L C (by decide) rfl (ca_cons (ce_ix (ce_v 0) ce_int (fun _ _ => rfl)) (ca_cons (ce_ix (ce_v 1) ce_int (fun _ _ => rfl)) ca_nil))) (ca_cons (ce_call h_law_greater_L C (by decide) rfl (ca_cons (ce_ix (ce_v 0) ce_int (fun _ _ => rfl)) (ca_cons (ce_ix (ce_v 1) ce_int (fun _ _ => rfl)) ca_nil))) (ca_cons (ce_call h_law_greater_L C (by decide) rfl (ca_cons (ce_ix (ce_v 0) ce_int (fun _ _ => rfl)) (ca_cons (ce_ix (ce_v 1) ce_int (fun _ _ => rfl)) ca_nil))) ca_nil))))))
/-! _law_common -/
abbrev s_law_common_L : Stmt := top 54
def d_law_common_L : EnP → Sto → SR := dSeq (dPar 2 3 (dCons (dCB F_law_greater_L (dCons (dBin fIx (dV 0) (dC (.int 0))) (dCons (dBin fIx (dV 1) (dC (.int 0))) (dNil)))) (dCons (dCB F_law_lesser_L (dCons (dBin fIx (dV 0) (dC (.int 1))) (dCons (dBin fIx (dV 1) (dC (.int 1))) (dNil)))) (dNil)))) (dSeq (dIfS (dB (dBin (fCmpI iGt) (dBin (fMul false) (dBin fIx (dV 2) (dC (.int 0))) (dBin fIx (dV 3) (dC (.int 1)))) (dBin (fMul false) (dBin fIx (dV 3) (dC (.int 0))) (dBin fIx (dV 2) (dC (.int 1)))))) (dRet (dC .non)) (dPass)) (dRet (dTup (dCons (dV 2) (dCons (dV 3) (dCons (dCB F_law_lesser_L (dCons (dBin fIx (dV 0) (dC (.int 2))) (dCons (dBin fIx (dV 1) (dC (.int 2))) (dNil)))) (dNil)))))))
def F_law_common_L : List PV → Sto → Res PV := runF 2 4 d_law_common_L
theorem sc_law_common_L : FnScope (["one", "other", "low", "high"] : List Str) (["one", "other"] : List Str) (defScope s_law_common_L) := ⟨rfl, rfl, rfl, by decide +kernel, rfl, by decide +kernel, by decide +kernel⟩
theorem fc_law_common_L {Z : Wd} (B : Bi Z.mg) (hT : Z.T.lm = none) (h_law_greater_L : FC Z 1 "_law_greater" F_law_greater_L) (h_law_lesser_L : FC Z 1 "_law_lesser" F_law_lesser_L) (D : DefOk Z "_law_common" s_law_common_L) : FC Z 2 "_law_common" F_law_common_L := by
  have Sc := sc_law_common_L
  exact D.fc Sc (fun _ _ _ _ _ _ us hl => match us, hl with | [_, _], _ => rfl) fun f cdv A outer s H E C => by exact (css_cons (cs_par (i := 2) (j := 3) C.calm Sc.nd rfl rfl (by decide) rfl rfl (ca_cons (ce_call h_law_greater_L C (by decide) rfl (ca_cons (ce_ix (ce_v 0) ce_int (fun _ _ => rfl)) (ca_cons (ce_ix (ce_v 1) ce_int (fun _ _ => rfl)) ca_nil))) (ca_cons (ce_call h_law_lesser_L C (by decide) rfl (ca_cons (ce_ix (ce_v 0) ce_int (fun _ _ => rfl)) (ca_cons (ce_ix (ce_v 1) ce_int (fun _ _ => rfl)) ca_nil))) ca_nil)) rfl) (css_cons (cs_if (ct_cmp op_gt (sn_cmpI iGt) (ce_bin op_mulM (sn_mul false (fun h => nomatch h)) (ce_ix (ce_v 2) ce_int (fun _ _ => rfl)) (ce_ix (ce_v 3) ce_int (fun _ _ => rfl))) (ce_bin op_mulM (sn_mul false (fun h => nomatch h)) (ce_ix (ce_v 3) ce_int (fun _ _ => rfl)) (ce_ix (ce_v 2) ce_int (fun _ _ => rfl))) rfl) (css_one (cs_ret ce_non)) css_nil) (css_one (cs_ret (ce_tup (ca_cons (ce_v 2) (ca_cons (ce_v 3) (ca_cons (ce_call h_law_lesser_L C (by decide) rfl (ca_cons (ce_ix (ce_v 0) ce_int (fun _ _ => rfl)) (ca_cons (ce_ix (ce_v 1) ce_int (fun _ _ => rfl)) ca_nil))) ca_nil))))))))
/-! _law_both -/
abbrev s_law_both_L : Stmt := top 55
def d_law_both_L : EnP → Sto → SR := dSeq (dPar 3 4 (dCons (dLst true (dNil)) (dCons (dLst true (dNil)) (dNil)))) (dSeq (dFor (iZip2 (dCons (dBin fIx (dV 0) (dC (.int 1))) (dCons (dBin fIx (dV 1) (dC (.int 1))) (dNil)))) (gTp 2 (gsCons (gNm 5) (gsCons (gNm 6) (gsNil)))) (dExpr (dApp (dV 3) (dCons (dIf (dTru (dV 2)) (dCB F_law_union_L (dCons (dV 5) (dCons (dV 6) (dNil)))) (dCB F_law_common_L (dCons (dV 5) (dCons (dV 6) (dNil))))) (dNil))))) (dSeq (dFor (iZip2 (dCons (dBin fIx (dV 0) (dC (.int 2))) (dCons (dBin fIx (dV 1) (dC (.int 2))) (dNil)))) (gTp 2 (gsCons (gNm 5) (gsCons (gNm 6) (gsNil)))) (dSeq (dSet 7 (dIf (dTru (dV 2)) (dCB F_law_union_L (dCons (dBin fIx (dV 5) (dC (.int 1))) (dCons (dBin fIx (dV 6) (dC (.int 1))) (dNil)))) (dCB F_law_common_L (dCons (dBin fIx (dV 5) (dC (.int 1))) (dCons (dBin fIx (dV 6) (dC (.int 1))) (dNil)))))) (dExpr (dApp (dV 4) (dCons (dIf (dB (dBin (fIsN false) (dV 7) (dC .non))) (dC .non) (dTup (dCons (dBin fIx (dV 5) (dC (.int 0))) (dCons (dV 7) (dNil))))) (dNil)))))) (dSeq (dSet 8 (dIf (dTru (dV 2)) (dCB F_law_common_L (dCons (dBin fIx (dV 0) (dC (.int 3))) (dCons (dBin fIx (dV 1) (dC (.int 3))) (dNil)))) (dCB F_law_union_L (dCons (dBin fIx (dV 0) (dC (.int 3))) (dCons (dBin fIx (dV 1) (dC (.int 3))) (dNil)))))) (dSeq (dIfS (bOr (dB (dBin (fInD false) (dC .non) (dV 3))) (bOr (dB (dBin (fInD false) (dC .non) (dV 4))) (dB (dBin (fIsN false) (dV 8) (dC .non))))) (dRet (dC .non)) (dPass)) (dRet (dTup (dCons (dBin fIx (dV 0) (dC (.int 0))) (dCons (dCB fTuple (dCons (dV 3) (dNil))) (dCons (dCB fTuple (dCons (dV 4) (dNil))) (dCons (dV 8) (dNil)))))))))))
def F_law_both_L : List PV → Sto → Res PV := runF 3 9 d_law_both_L
theorem sc_law_both_L : FnScope (["one", "other", "is_backing", "ins", "rows", "here", "there", "hold", "out"] : List Str) (["one", "other", "is_backing"] : List Str) (defScope s_law_both_L) := ⟨rfl, rfl, rfl, by decide +kernel, rfl, by decide +kernel, by decide +kernel⟩
theorem fc_law_both_L {Z : Wd} (B : Bi Z.mg) (hT : Z.T.lm = none) (h_law_union_L : FC Z 2 "_law_union" F_law_union_L) (h_law_common_L : FC Z 2 "_law_common" F_law_common_L) (D : DefOk Z "_law_both" s_law_both_L) : FC Z 3 "_law_both" F_law_both_L := by
  have Sc := sc_law_both_L
  exact D.fc Sc (fun _ _ _ _ _ _ us hl => match us, hl with | [_, _, _], _ => rfl) fun f cdv A outer s H E C => by exact (css_cons (cs_par (i := 3) (j := 4) C.calm Sc.nd rfl rfl (by decide) rfl rfl (ca_cons (ce_lst true (fun _ => gm_bare C.room.hd hT) ca_nil) (ca_cons (ce_lst true (fun _ => gm_bare C.room.hd hT) ca_nil) ca_nil)) rfl) (css_cons (cs_for C.po C.calm (ci_zip rfl B.b_zip (ca_cons (ce_ix (ce_v 0) ce_int (fun _ _ => rfl)) (ca_cons (ce_ix (ce_v 1) ce_int (fun _ _ => rfl)) ca_nil))) (cg_tup C.calm (cgs_cons (fun _ _ _ _ _ h => h) (cg_name (i := 5) Sc.nd rfl (Or.inl rfl)) (cgs_cons (fun _ _ _ _ _ h => h) (cg_name (i := 6) Sc.nd rfl (Or.inl rfl)) cgs_nil))) (css_one (cs_expr (ce_app (gm_bare C.room.hd hT) (ce_v 3) (ca_cons (ce_if (ct_tru (ce_v 2)) (ce_call h_law_union_L C (by decide) rfl (ca_cons (ce_v 5) (ca_cons (ce_v 6) ca_nil))) (ce_call h_law_common_L C (by decide) rfl (ca_cons (ce_v 5) (ca_cons (ce_v 6) ca_nil)))) ca_nil))))) (css_cons (cs_for C.po C.calm (ci_zip rfl B.b_zip (ca_cons (ce_ix (ce_v 0) ce_int (fun _ _ => rfl)) (ca_cons (ce_ix (ce_v 1) ce_int (fun _ _ => rfl)) ca_nil))) (cg_tup C.calm (cgs_cons (fun _ _ _ _ _ h => h) (cg_name (i := 5) Sc.nd rfl (Or.inl rfl)) (cgs_cons (fun _ _ _ _ _ h => h) (cg_name (i := 6) Sc.nd rfl (Or.inl rfl)) cgs_nil))) (css_cons (cs_set (i := 7) Sc.nd rfl (Or.inl rfl) (ce_if (ct_tru (ce_v 2)) (ce_call h_law_union_L C (by decide) rfl (ca_cons (ce_ix (ce_v 5) ce_int (fun _ _ => rfl)) (ca_cons (ce_ix (ce_v 6) ce_int (fun _ _ => rfl)) ca_nil))) (ce_call h_law_common_L C (by decide) rfl (ca_cons (ce_ix (ce_v 5) ce_int (fun _ _ => rfl)) (ca_cons (ce_ix (ce_v 6) ce_int (fun _ _ => rfl)) ca_nil))))) (css_one (cs_expr (ce_app (gm_bare C.room.hd hT) (ce_v 4) (ca_cons (ce_if (ct_cmp op_isN sn_isN (ce_v 7) ce_non rfl) ce_non (ce_tup (ca_cons (ce_ix (ce_v 5) ce_int (fun _ _ => rfl)) (ca_cons (ce_v 7) ca_nil)))) ca_nil)))))) (css_cons (cs_set (i := 8) Sc.nd rfl (Or.inl rfl) (ce_if (ct_tru (ce_v 2)) (ce_call h_law_common_L C (by decide) rfl (ca_cons (ce_ix (ce_v 0) ce_int (fun _ _ => rfl)) (ca_cons (ce_ix (ce_v 1) ce_int (fun _ _ => rfl)) ca_nil))) (ce_call h_law_union_L C (by decide) rfl (ca_cons (ce_ix (ce_v 0) ce_int (fun _ _ => rfl)) (ca_cons (ce_ix (ce_v 1) ce_int (fun _ _ => rfl)) ca_nil))))) (css_cons (cs_if (ct_w (cw_or (ct_cmp (op_inD (u65 C.u)) sn_inD ce_non (ce_v 3) rfl) (cw_or (ct_cmp (op_inD (u65 C.u)) sn_inD ce_non (ce_v 4) rfl) (cw_or1 (ct_cmp op_isN sn_isN (ce_v 8) ce_non rfl))))) (css_one (cs_ret ce_non)) css_nil) (css_one (cs_ret (ce_tup (ca_cons (ce_ix (ce_v 0) ce_int (fun _ _ => rfl)) (ca_cons (ce_callTy call_tuple_of sl_tuple rfl B.b_tuple PyProof.Rows.boot_tuple (ca_cons (ce_v 3) ca_nil)) (ca_cons (ce_callTy call_tuple_of sl_tuple rfl B.b_tuple PyProof.Rows.boot_tuple (ca_cons (ce_v 4) ca_nil)) (ca_cons (ce_v 8) ca_nil))))))))))))
/-! _law_pair_right -/
abbrev s_law_pair_right_L : Stmt := top 56
def d_law_pair_right_L : EnP → Sto → SR := dSeq (dSet 2 (dLst false (dCons (dCB F_law_both_L (dCons (dV 0) (dCons (dV 1) (dCons (dC (.bl true)) (dNil))))) (dCons (dCB F_law_both_L (dCons (dV 0) (dCons (dV 1) (dCons (dC (.bl false)) (dNil))))) (dNil))))) (dSeq (dSet 3 (dLst false (dCons (dCB F_backing_both (dCons (dV 0) (dCons (dV 1) (dNil)))) (dCons (dCB F_backed_by_both (dCons (dV 0) (dCons (dV 1) (dNil)))) (dNil))))) (dSeq (dIfS (dB (dBin (fEq true) (dCB fRepr (dCons (dV 3) (dNil))) (dCB fRepr (dCons (dV 2) (dNil))))) (dRet (dC (.bl false))) (dPass)) (dSeq (dSet 4 (dLst false (dCons (dCB F_backing_both (dCons (dV 1) (dCons (dV 0) (dNil)))) (dCons (dCB F_backed_by_both (dCons (dV 1) (dCons (dV 0) (dNil)))) (dNil))))) (dSeq (dFor (iZip2 (dCons (dV 3) (dCons (dV 4) (dNil)))) (gTp 2 (gsCons (gNm 5) (gsCons (gNm 6) (gsNil)))) (dIfS (bOr (dB (dBin (fEq true) (dBin (fIsN false) (dV 5) (dC .non)) (dBin (fIsN false) (dV 6) (dC .non)))) (bAnd (dB (dBin (fIsN true) (dV 5) (dC .non))) (dB (dBin (fEq true) (dSl false (dV 5) (dPart (dC (.int 1))) (dNoPart)) (dSl false (dV 6) (dPart (dC (.int 1))) (dNoPart)))))) (dRet (dC (.bl false))) (dPass))) (dSeq (dIfS (dB (dBin (fIsN true) (dBin fIx (dV 2) (dC (.int 0))) (dC .non))) (dSeq (dIfS (bOr (dB (dBin (fIs true) (dCB F_is_promise (dCons (dBin fIx (dV 2) (dC (.int 0))) (dNil))) (dC (.bl true)))) (bOr (bNot (dTru (dCB F_backs (dCons (dBin fIx (dV 2) (dC (.int 0))) (dCons (dV 0) (dNil)))))) (bNot (dTru (dCB F_backs (dCons (dBin fIx (dV 2) (dC (.int 0))) (dCons (dV 1) (dNil)))))))) (dRet (dC (.bl false))) (dPass)) (dIfS (dB (dBin (fEq true) (dLc false (iSeq (dBin fIx (dBin fIx (dV 2) (dC (.int 0))) (dC (.int 1)))) (cNm 7) (dYes) (dV 7) [7]) (dLc false (iZip2 (dCons (dBin fIx (dV 0) (dC (.int 1))) (dCons (dBin fIx (dV 1) (dC (.int 1))) (dNil)))) (cTup 2 (cCons (cNm 8) (cCons (cNm 9) (cNil)))) (dYes) (dCB F_joined (dCons (dV 8) (dCons (dV 9) (dNil)))) [8, 9]))) (dRet (dC (.bl false))) (dPass))) (dPass)) (dSeq (dIfS (dB (dBin (fIsN true) (dBin fIx (dV 2) (dC (.int 1))) (dC .non))) (dSeq (dIfS (bOr (dB (dBin (fIs true) (dCB F_is_promise (dCons (dBin fIx (dV 2) (dC (.int 1))) (dNil))) (dC (.bl true)))) (bOr (bNot (dTru (dCB F_backs (dCons (dV 0) (dCons (dBin fIx (dV 2) (dC (.int 1))) (dNil)))))) (bNot (dTru (dCB F_backs (dCons (dV 1) (dCons (dBin fIx (dV 2) (dC (.int 1))) (dNil)))))))) (dRet (dC (.bl false))) (dPass)) (dIfS (dB (dBin (fEq true) (dBin fIx (dBin fIx (dV 2) (dC (.int 1))) (dC (.int 3))) (dCB F_joined (dCons (dBin fIx (dV 0) (dC (.int 3))) (dCons (dBin fIx (dV 1) (dC (.int 3))) (dNil)))))) (dRet (dC (.bl false))) (dPass))) (dPass)) (dRet (dAnd (dBin (fEq false) (dCB F_backing_both (dCons (dV 0) (dCons (dV 0) (dNil)))) (dV 0)) (dBin (fEq false) (dCB F_backed_by_both (dCons (dV 0) (dCons (dV 0) (dNil)))) (dV 0))))))))))
def F_law_pair_right_L : List PV → Sto → Res PV := runF 2 10 d_law_pair_right_L
theorem sc_law_pair_right_L : FnScope (["one", "other", "due", "shown", "turned", "here", "there", "hold", "a", "b"] : List Str) (["one", "other"] : List Str) (defScope s_law_pair_right_L) := ⟨rfl, rfl, rfl, by decide +kernel, rfl, by decide +kernel, by decide +kernel⟩
theorem fc_law_pair_right_L {Z : Wd} (B : Bi Z.mg) (hT : Z.T.lm = none) (h_law_both_L : FC Z 3 "_law_both" F_law_both_L) (h_backed_by_both : FC Z 10 "backed_by_both" F_backed_by_both) (h_backing_both : FC Z 10 "backing_both" F_backing_both) (h_is_promise : FC Z 6 "is_promise" F_is_promise) (h_backs : FC Z 8 "backs" F_backs) (h_joined : FC Z 5 "joined" F_joined) (D : DefOk Z "_law_pair_right" s_law_pair_right_L) : FC Z 11 "_law_pair_right" F_law_pair_right_L := by
  have Sc := sc_law_pair_right_L
  exact D.fc Sc (fun _ _ _ _ _ _ us hl => match us, hl with | [_, _], _ => rfl) fun f cdv A outer s H E C => by exact (css_cons (cs_set (i := 2) Sc.nd rfl (Or.inl rfl) (ce_lst false (fun h => nomatch h) (ca_cons (ce_call h_law_both_L C (by decide) rfl (ca_cons (ce_v 0) (ca_cons (ce_v 1) (ca_cons ce_bl ca_nil)))) (ca_cons (ce_call h_law_both_L C (by decide) rfl (ca_cons (ce_v 0) (ca_cons (ce_v 1) (ca_cons ce_bl ca_nil)))) ca_nil)))) (css_cons (cs_set (i := 3) Sc.nd rfl (Or.inl rfl) (ce_lst false (fun h => nomatch h) (ca_cons (ce_call h_backing_both C (by decide) rfl (ca_cons (ce_v 0) (ca_cons (ce_v 1) ca_nil))) (ca_cons (ce_call h_backed_by_both C (by decide) rfl (ca_cons (ce_v 0) (ca_cons (ce_v 1) ca_nil))) ca_nil)))) (css_cons (cs_if (ct_cmp (op_neD (u64 C.u)) sn_ne (ce_callB (call_reprD C.gd (u80 C.u)) sl_repr rfl B.b_repr PyProof.Rows.boot_repr (ca_cons (ce_v 3) ca_nil)) (ce_callB (call_reprD C.gd (u80 C.u)) sl_repr rfl B.b_repr PyProof.Rows.boot_repr (ca_cons (ce_v 2) ca_nil)) rfl) (css_one (cs_ret ce_bl)) css_nil) (css_cons (cs_set (i := 4) Sc.nd rfl (Or.inl rfl) (ce_lst false (fun h => nomatch h) (ca_cons (ce_call h_backing_both C (by decide) rfl (ca_cons (ce_v 1) (ca_cons (ce_v 0) ca_nil))) (ca_cons (ce_call h_backed_by_both C (by decide) rfl (ca_cons (ce_v 1) (ca_cons (ce_v 0) ca_nil))) ca_nil)))) (css_cons (cs_for C.po C.calm (ci_zip rfl B.b_zip (ca_cons (ce_v 3) (ca_cons (ce_v 4) ca_nil))) (cg_tup C.calm (cgs_cons (fun _ _ _ _ _ h => h) (cg_name (i := 5) Sc.nd rfl (Or.inl rfl)) (cgs_cons (fun _ _ _ _ _ h => h) (cg_name (i := 6) Sc.nd rfl (Or.inl rfl)) cgs_nil))) (css_one (cs_if (ct_w (cw_or (ct_cmp (op_neD (u64 C.u)) sn_ne (ce_cmp op_isN sn_isN (ce_v 5) ce_non rfl) (ce_cmp op_isN sn_isN (ce_v 6) ce_non rfl) rfl) (cw_or1 (ct_w (cw_and (ct_cmp op_notN sn_notN (ce_v 5) ce_non rfl) (cw_and1 (ct_cmp (op_neD (u64 C.u)) sn_ne (ce_sl false (fun h => nomatch h) (ce_v 5) (co_some ce_int) co_none) (ce_sl false (fun h => nomatch h) (ce_v 6) (co_some ce_int) co_none) rfl))))))) (css_one (cs_ret ce_bl)) css_nil))) (css_cons (cs_if (ct_cmp op_notN sn_notN (ce_ix (ce_v 2) ce_int (fun _ _ => rfl)) ce_non rfl) (css_cons (cs_if (ct_w (cw_or (ct_cmp op_notBl sn_notB (ce_call h_is_promise C (by decide) rfl (ca_cons (ce_ix (ce_v 2) ce_int (fun _ _ => rfl)) ca_nil)) ce_bl rfl) (cw_or (ct_not (ct_tru (ce_call h_backs C (by decide) rfl (ca_cons (ce_ix (ce_v 2) ce_int (fun _ _ => rfl)) (ca_cons (ce_v 0) ca_nil))))) (cw_or1 (ct_not (ct_tru (ce_call h_backs C (by decide) rfl (ca_cons (ce_ix (ce_v 2) ce_int (fun _ _ => rfl)) (ca_cons (ce_v 1) ca_nil))))))))) (css_one (cs_ret ce_bl)) css_nil) (css_one (cs_if (ct_cmp (op_neD (u64 C.u)) sn_ne (ce_lcC false (fun h => nomatch h) C Sc.nd (ci_seq (ce_ix (ce_ix (ce_v 2) ce_int (fun _ _ => rfl)) ce_int (fun _ _ => rfl))) (show BlkOk (["one", "other", "due", "shown", "turned", "here", "there", "hold", "a", "b"] : List Str) (defScope s_law_pair_right_L) _ [(("hold" : Str), 7)] from blkOk_by (by decide +kernel)) (fun _ _ _ _ _ C => (pg_name (i := 7) Sc.nd rfl (Or.inl rfl) (Or.inr rfl))) (tgc_name (by decide)) (fun _ _ _ _ _ _ => pts_yes) (fun _ _ _ _ _ C => (ce_v 7))) (ce_lcC false (fun h => nomatch h) C Sc.nd (ci_zip rfl B.b_zip (ca_cons (ce_ix (ce_v 0) ce_int (fun _ _ => rfl)) (ca_cons (ce_ix (ce_v 1) ce_int (fun _ _ => rfl)) ca_nil))) (show BlkOk (["one", "other", "due", "shown", "turned", "here", "there", "hold", "a", "b"] : List Str) (defScope s_law_pair_right_L) _ [(("a" : Str), 8), (("b" : Str), 9)] from blkOk_by (by decide +kernel)) (fun _ _ _ _ _ C => (pg_tup C.calm (pgs_cons (pg_name (i := 8) Sc.nd rfl (Or.inl rfl) (Or.inr rfl)) (pgs_cons (pg_name (i := 9) Sc.nd rfl (Or.inl rfl) (Or.inr rfl)) pgs_nil rfl) rfl) rfl rfl)) (tgc_tup (tgcs_cons (tgc_name (by decide)) (tgcs_cons (tgc_name (by decide)) tgcs_nil))) (fun _ _ _ _ _ _ => pts_yes) (fun _ _ _ _ _ C => (ce_call h_joined C (by decide) rfl (ca_cons (ce_v 8) (ca_cons (ce_v 9) ca_nil))))) rfl) (css_one (cs_ret ce_bl)) css_nil))) css_nil) (css_cons (cs_if (ct_cmp op_notN sn_notN (ce_ix (ce_v 2) ce_int (fun _ _ => rfl)) ce_non rfl) (css_cons (cs_if (ct_w (cw_or (ct_cmp op_notBl sn_notB (ce_call h_is_promise C (by decide) rfl (ca_cons (ce_ix (ce_v 2) ce_int (fun _ _ => rfl)) ca_nil)) ce_bl rfl) (cw_or (ct_not (ct_tru (ce_call h_backs C (by decide) rfl (ca_cons (ce_v 0) (ca_cons (ce_ix (ce_v 2) ce_int (fun _ _ => rfl)) ca_nil))))) (cw_or1 (ct_not (ct_tru (ce_call h_backs C (by decide) rfl (ca_cons (ce_v 1) (ca_cons (ce_ix (ce_v 2) ce_int (fun _ _ => rfl)) ca_nil))))))))) (css_one (cs_ret ce_bl)) css_nil) (css_one (cs_if (ct_cmp (op_neD (u64 C.u)) sn_ne (ce_ix (ce_ix (ce_v 2) ce_int (fun _ _ => rfl)) ce_int (fun _ _ => rfl)) (ce_call h_joined C (by decide) rfl (ca_cons (ce_ix (ce_v 0) ce_int (fun _ _ => rfl)) (ca_cons (ce_ix (ce_v 1) ce_int (fun _ _ => rfl)) ca_nil))) rfl) (css_one (cs_ret ce_bl)) css_nil))) css_nil) (css_one (cs_ret (ce_and (ce_cmp (op_eqD (u64 C.u)) sn_eq (ce_call h_backing_both C (by decide) rfl (ca_cons (ce_v 0) (ca_cons (ce_v 0) ca_nil))) (ce_v 0) rfl) (ce_one (ce_cmp (op_eqD (u64 C.u)) sn_eq (ce_call h_backed_by_both C (by decide) rfl (ca_cons (ce_v 0) (ca_cons (ce_v 0) ca_nil))) (ce_v 0) rfl))))))))))))
/-! _law_others_right -/
abbrev s_law_others_right_L : Stmt := top 57
def d_law_others_right_L : EnP → Sto → SR := dSeq (dPar 4 5 (dCons (dCB F_law_both_L (dCons (dV 1) (dCons (dV 2) (dCons (dC (.bl true)) (dNil))))) (dCons (dCB F_law_both_L (dCons (dV 1) (dCons (dV 2) (dCons (dC (.bl false)) (dNil))))) (dNil)))) (dSeq (dFor (iRange (dCons (dC (.int 8)) (dNil))) (gNm 6) (dSeq (dSet 7 (dCB F_law_promise_L (dCons (dV 0) (dCons (dV 3) (dNil))))) (dSeq (dIfS (bAnd (dB (dBin (fIsN true) (dV 4) (dC .non))) (dB (dBin (fEq false) (dCB F_law_draw_L (dCons (dV 0) (dCons (dC (.int 2)) (dNil)))) (dC (.int 0))))) (dSet 7 (dIf (dB (dBin (fIsN true) (dCB F_law_both_L (dCons (dV 7) (dCons (dV 4) (dCons (dC (.bl true)) (dNil))))) (dC .non))) (dCB F_law_both_L (dCons (dV 7) (dCons (dV 4) (dCons (dC (.bl true)) (dNil))))) (dV 7))) (dPass)) (dSeq (dIfS (bAnd (dTru (dCB F_backs (dCons (dV 7) (dCons (dV 1) (dNil))))) (dTru (dCB F_backs (dCons (dV 7) (dCons (dV 2) (dNil)))))) (dIfS (bOr (dB (dBin (fIsN false) (dV 4) (dC .non))) (dB (dBin (fIs true) (dCB F_backs (dCons (dV 7) (dCons (dV 4) (dNil)))) (dC (.bl true))))) (dRet (dC (.bl false))) (dPass)) (dPass)) (dSeq (dSet 8 (dCB F_law_promise_L (dCons (dV 0) (dCons (dV 3) (dNil))))) (dSeq (dIfS (bAnd (dB (dBin (fIsN true) (dV 5) (dC .non))) (dB (dBin (fEq false) (dCB F_law_draw_L (dCons (dV 0) (dCons (dC (.int 2)) (dNil)))) (dC (.int 0))))) (dSet 8 (dIf (dB (dBin (fIsN true) (dCB F_law_both_L (dCons (dV 8) (dCons (dV 5) (dCons (dC (.bl false)) (dNil))))) (dC .non))) (dCB F_law_both_L (dCons (dV 8) (dCons (dV 5) (dCons (dC (.bl false)) (dNil))))) (dV 8))) (dPass)) (dIfS (bAnd (dTru (dCB F_backs (dCons (dV 1) (dCons (dV 8) (dNil))))) (dTru (dCB F_backs (dCons (dV 2) (dCons (dV 8) (dNil)))))) (dIfS (bOr (dB (dBin (fIsN false) (dV 5) (dC .non))) (dB (dBin (fIs true) (dCB F_backs (dCons (dV 5) (dCons (dV 8) (dNil)))) (dC (.bl true))))) (dRet (dC (.bl false))) (dPass)) (dPass)))))))) (dRet (dC (.bl true))))
def F_law_others_right_L : List PV → Sto → Res PV := runF 4 9 d_law_others_right_L
theorem sc_law_others_right_L : FnScope (["hand", "one", "other", "shape", "most", "least", "turn", "third", "fourth"] : List Str) (["hand", "one", "other", "shape"] : List Str) (defScope s_law_others_right_L) := ⟨rfl, rfl, rfl, by decide +kernel, rfl, by decide +kernel, by decide +kernel⟩
theorem fc_law_others_right_L {Z : Wd} (B : Bi Z.mg) (hT : Z.T.lm = none) (h_law_both_L : FC Z 3 "_law_both" F_law_both_L) (h_law_promise_L : FC Z 4 "_law_promise" F_law_promise_L) (h_law_draw_L : FC Z 1 "_law_draw" F_law_draw_L) (h_backs : FC Z 8 "backs" F_backs) (D : DefOk Z "_law_others_right" s_law_others_right_L) : FC Z 9 "_law_others_right" F_law_others_right_L := by
  have Sc := sc_law_others_right_L
  exact D.fc Sc (fun _ _ _ _ _ _ us hl => match us, hl with | [_, _, _, _], _ => rfl) fun f cdv A outer s H E C => by exact (css_cons (cs_par (i := 4) (j := 5) C.calm Sc.nd rfl rfl (by decide) rfl rfl (ca_cons (ce_call h_law_both_L C (by decide) rfl (ca_cons (ce_v 1) (ca_cons (ce_v 2) (ca_cons ce_bl ca_nil)))) (ca_cons (ce_call h_law_both_L C (by decide) rfl (ca_cons (ce_v 1) (ca_cons (ce_v 2) (ca_cons ce_bl ca_nil)))) ca_nil)) rfl) (css_cons (cs_for C.po C.calm (ci_range1 rfl B.b_range (ca_cons ce_int ca_nil) rfl len1) (cg_name (i := 6) Sc.nd rfl (Or.inl rfl)) (css_cons (cs_set (i := 7) Sc.nd rfl (Or.inl rfl) (ce_call h_law_promise_L C (by decide) rfl (ca_cons (ce_v 0) (ca_cons (ce_v 3) ca_nil)))) (css_cons (cs_if (ct_w (cw_and (ct_cmp op_notN sn_notN (ce_v 4) ce_non rfl) (cw_and1 (ct_cmp (op_eqD (u64 C.u)) sn_eq (ce_call h_law_draw_L C (by decide) rfl (ca_cons (ce_v 0) (ca_cons ce_int ca_nil))) ce_int rfl)))) (css_one (cs_set (i := 7) Sc.nd rfl (Or.inl rfl) (ce_if (ct_cmp op_notN sn_notN (ce_call h_law_both_L C (by decide) rfl (ca_cons (ce_v 7) (ca_cons (ce_v 4) (ca_cons ce_bl ca_nil)))) ce_non rfl) (ce_call h_law_both_L C (by decide) rfl (ca_cons (ce_v 7) (ca_cons (ce_v 4) (ca_cons ce_bl ca_nil)))) (ce_v 7)))) css_nil) (css_cons (cs_if (ct_w (cw_and (ct_tru (ce_call h_backs C (by decide) rfl (ca_cons (ce_v 7) (ca_cons (ce_v 1) ca_nil)))) (cw_and1 (ct_tru (ce_call h_backs C (by decide) rfl (ca_cons (ce_v 7) (ca_cons (ce_v 2) ca_nil))))))) (css_one (cs_if (ct_w (cw_or (ct_cmp op_isN sn_isN (ce_v 4) ce_non rfl) (cw_or1 (ct_cmp op_notBl sn_notB (ce_call h_backs C (by decide) rfl (ca_cons (ce_v 7) (ca_cons (ce_v 4) ca_nil))) ce_bl rfl)))) (css_one (cs_ret ce_bl)) css_nil)) css_nil) (css_cons (cs_set (i := 8) Sc.nd rfl (Or.inl rfl) (ce_call h_law_promise_L C (by decide) rfl (ca_cons (ce_v 0) (ca_cons (ce_v 3) ca_nil)))) (css_cons (cs_if (ct_w (cw_and (ct_cmp op_notN sn_notN (ce_v 5) ce_non rfl) (cw_and1 (ct_cmp (op_eqD (u64 C.u)) sn_eq (ce_call h_law_draw_L C (by decide) rfl (ca_cons (ce_v 0) (ca_cons ce_int ca_nil))) ce_int rfl)))) (css_one (cs_set (i := 8) Sc.nd rfl (Or.inl rfl) (ce_if (ct_cmp op_notN sn_notN (ce_call h_law_both_L C (by decide) rfl (ca_cons (ce_v 8) (ca_cons (ce_v 5) (ca_cons ce_bl ca_nil)))) ce_non rfl) (ce_call h_law_both_L C (by decide) rfl (ca_cons (ce_v 8) (ca_cons (ce_v 5) (ca_cons ce_bl ca_nil)))) (ce_v 8)))) css_nil) (css_one (cs_if (ct_w (cw_and (ct_tru (ce_call h_backs C (by decide) rfl (ca_cons (ce_v 1) (ca_cons (ce_v 8) ca_nil)))) (cw_and1 (ct_tru (ce_call h_backs C (by decide) rfl (ca_cons (ce_v 2) (ca_cons (ce_v 8) ca_nil))))))) (css_one (cs_if (ct_w (cw_or (ct_cmp op_isN sn_isN (ce_v 5) ce_non rfl) (cw_or1 (ct_cmp op_notBl sn_notB (ce_call h_backs C (by decide) rfl (ca_cons (ce_v 5) (ca_cons (ce_v 8) ca_nil))) ce_bl rfl)))) (css_one (cs_ret ce_bl)) css_nil)) css_nil)))))))) (css_one (cs_ret ce_bl))))
/-! _law_said -/
abbrev s_law_said_L : Stmt := top 58
def d_law_said_L (K : Sto → Res PV) : EnP → Sto → SR := dSeq (dTry 1 catT (dExpr (dAct 0 K)) (fun c1 fs => dSeq (dSet 2 (dLst false (dCons (dCB (fIsE (isF fs (isT c1))) (dCons (dV 1) (dCons (dC (.glb ("NoPromise" : Str))) (dNil)))) (dCons (dCB (fIsE (isF fs (isT c1))) (dCons (dV 1) (dCons (dC (.glb ("Unlike" : Str))) (dNil)))) (dNil))))) (dSeq (dIfS (bOr (dB (dBin (fEq true) (dCount (dV 2) (dCons (dC (.bl true)) (dNil))) (dC (.int 1)))) (bNot (dTru (dCB (fIsE (isF fs (isT c1))) (dCons (dV 1) (dCons (dC (.ty "ValueError")) (dNil))))))) (dRet (dC (.str ("other" : Str)))) (dPass)) (dRet (dIf (dTru (dBin fIx (dV 2) (dC (.int 0)))) (dC (.str ("promise" : Str))) (dC (.str ("unlike" : Str)))))))) (dRet (dC (.str ("let" : Str))))
def G_law_said_L : (Sto → Res PV) → Sto → Res PV := lamF 3 d_law_said_L
theorem sc_law_said_L : FnScope (["call", "error", "flags"] : List Str) (["call"] : List Str) (defScope s_law_said_L) := ⟨rfl, rfl, rfl, by decide +kernel, rfl, by decide +kernel, by decide +kernel⟩
theorem fl_law_said_L {Z : Wd} (B : Bi Z.mg) (hT : Z.T.lm = none) (e_Unlike : EC Z.K Z.mg "Unlike") (e_NoPromise : EC Z.K Z.mg "NoPromise") {CR : Addr} (hCR : Z.mg "RoundError" = some (.ref CR)) (hcat : ∀ c b, catT c = some b → ∀ C, Z.mg c = some (.ref C) → PySem.W.exmOne Z.K (.ref C) (.ref CR) = some b) (hE : ∀ c C fs (d : Option Addr), Z.mg c = some (.ref C) → (fs = [] → d = none) → (d = none ∧ ExcC Z.K C ∧ IsT Z.K Z.mg C (isF fs (isT c))) ∨ ∀ t, isF fs (isT c) t = none) (D : DefOk Z "_law_said" s_law_said_L) : FL Z 0 "_law_said" G_law_said_L := by
  have Sc := sc_law_said_L
  exact D.fl Sc (fun _ _ _ _ _ _ us hl => match us, hl with | [_], _ => rfl) rfl (Or.inl rfl) fun i K f cdv A outer s H E C act => by exact (css_cons (cs_try rfl rfl Sc.nd rfl rfl ⟨rfl, by decide, .inl hCR⟩ C.tk hcat (fun W1 pn xe tk1 po1 => (css_one (cs_expr (act pn xe W1 _ _ tk1)))) (fun c1 fs D a1 oe1 dd pn1 h1 h2 hz hv => (css_cons (cs_set (i := 2) Sc.nd rfl (Or.inl rfl) (ce_lst false (fun h => nomatch h) (ca_cons (ce_isE (hE c1 D fs dd h1 h2) hz hv B.b_isinstance rfl (ca_cons (ce_v 1) (ca_cons (ce_ge e_NoPromise rfl) ca_nil))) (ca_cons (ce_isE (hE c1 D fs dd h1 h2) hz hv B.b_isinstance rfl (ca_cons (ce_v 1) (ca_cons (ce_ge e_Unlike rfl) ca_nil))) ca_nil)))) (css_cons (cs_if (ct_w (cw_or (ct_cmp (op_neD (u64 C.u)) sn_ne (ce_count (u65 C.u) (ce_v 2) (ca_cons ce_bl ca_nil)) ce_int rfl) (cw_or1 (ct_not (ct_tru (ce_isE (hE c1 D fs dd h1 h2) hz hv B.b_isinstance rfl (ca_cons (ce_v 1) (ca_cons (ce_bty rfl B.b_ValueError (by decide +kernel)) ca_nil)))))))) (css_one (cs_ret ce_str)) css_nil) (css_one (cs_ret (ce_if (ct_tru (ce_ix (ce_v 2) ce_int (fun _ _ => rfl))) ce_str ce_str))))))) (css_one (cs_ret ce_str)))
/-! _law_two_said -/
abbrev s_law_two_said_L : Stmt := top 59
def t_law_two_said_L : Str → Option (List PV → Sto → Res PV) := fun x => if x = "backing_both" then some F_backing_both else if x = "backed_by_both" then some F_backed_by_both else none
def d_law_two_said_L : EnP → Sto → SR := dRet (fun ρ S => G_law_said_L (fun S => (dCallV 0 t_law_two_said_L (dCons (dV 1) (dCons (dV 2) (dNil)))) ρ S) S)
def F_law_two_said_L : List PV → Sto → Res PV := runF 3 3 d_law_two_said_L
theorem sc_law_two_said_L : FnScope (["ask", "one", "other"] : List Str) (["ask", "one", "other"] : List Str) (defScope s_law_two_said_L) := ⟨rfl, rfl, rfl, by decide +kernel, rfl, by decide +kernel, by decide +kernel⟩
theorem fc_law_two_said_L {Z : Wd} (B : Bi Z.mg) (hT : Z.T.lm = none) (h_backing_both : FC Z 10 "backing_both" F_backing_both) (h_backed_by_both : FC Z 10 "backed_by_both" F_backed_by_both) (g_law_said_L : FL Z 0 "_law_said" G_law_said_L) {cA cP : Addr} (hTB : LamX.TabB Z.base Z.mg cA cP) (hMem : (cP, ("_law_two_said.<locals>.<lambda>" : Str)) ∈ Z.T.tabs) (hU : ∀ p ∈ Z.T.tabs, p.1 = cP → p.2 = ("_law_two_said.<locals>.<lambda>" : Str)) (D : DefOkC Z "_law_two_said" s_law_two_said_L cA) : FC Z 23 "_law_two_said" F_law_two_said_L := by
  have Sc := sc_law_two_said_L
  have hV : ∀ x F, t_law_two_said_L x = some F → FC Z 10 x F := fun x F e => by
    unfold t_law_two_said_L at e
    split at e
    · subst_vars; cases e; exact (FC.mono h_backing_both (by decide))
    split at e
    · subst_vars; cases e; exact (FC.mono h_backed_by_both (by decide))
    cases e
  exact D.fc Sc (fun _ _ _ _ _ _ us hl => match us, hl with | [_, _, _], _ => rfl) fun f A outer s H E C => by exact (css_one (cs_ret (ce_lam (kl := 20) g_law_said_L C (by decide) (by decide) hT rfl hTB rfl hMem hU (show LamX.LamS (defScope s_law_two_said_L) _ from LamX.lamS_by (by decide +kernel)) rfl (fun _ _ _ _ _ => rfl) (fun A1 outer1 s1 H1 E1 f1 c1 hr1 hg1 => have C := ctx_lam hr1 hg1; (ce_callV C hV (by decide) rfl (by first | exact Or.inl rfl | exact Or.inr (Or.inl rfl) | exact Or.inr (Or.inr rfl)) (ca_cons (ce_v 1) (ca_cons (ce_v 2) ca_nil)))))))
/-! law -/
abbrev s_law : Stmt := top 60
def d_law : EnP → Sto → SR := dSeq (dSet 1 (dCB F_law_hand_L (dCons (dV 0) (dNil)))) (dSeq (dAsg (dTup (dCons (dTup (dCons (dTup (dCons (dC (.int 0)) (dCons (dC (.int 1)) (dNil)))) (dCons (dTup (dCons (dC (.int 1)) (dCons (dC (.int 1)) (dNil)))) (dCons (dTup (dCons (dC (.int 0)) (dCons (dC (.int 1)) (dNil)))) (dNil))))) (dCons (dTup (dCons (dTup (dCons (dC (.int 2)) (dCons (dC (.int 1)) (dNil)))) (dCons (dTup (dCons (dC (.int 3)) (dCons (dC (.int 1)) (dNil)))) (dCons (dTup (dCons (dC (.int 1)) (dCons (dC (.int 8)) (dNil)))) (dNil))))) (dNil)))) (gTp 2 (gsCons (gNm 2) (gsCons (gNm 3) (gsNil))))) (dSeq (dPar 4 5 (dCons (dTup (dCons (dC (.str ("a" : Str))) (dCons (dTup (dCons (dV 2) (dNil))) (dCons (dTup (dNil)) (dCons (dV 2) (dNil)))))) (dCons (dTup (dCons (dC (.str ("b" : Str))) (dCons (dTup (dCons (dV 3) (dNil))) (dCons (dTup (dNil)) (dCons (dV 3) (dNil)))))) (dNil)))) (dSeq (dIfS (bOr (dB (dBin (fIsN true) (dCB F_backing_both (dCons (dV 4) (dCons (dV 5) (dNil)))) (dC .non))) (dB (dBin (fIsN true) (dCB F_backed_by_both (dCons (dV 4) (dCons (dV 5) (dNil)))) (dC .non)))) (dRet (dC (.bl false))) (dPass)) (dSeq (dSet 6 (dTup (dCons (dC (.str ("b" : Str))) (dCons (dTup (dCons (dV 3) (dNil))) (dCons (dTup (dNil)) (dCons (dV 2) (dNil))))))) (dSeq (dIfS (bOr (dB (dBin (fEq true) (dCB F_backing_both (dCons (dV 4) (dCons (dV 6) (dNil)))) (dTup (dCons (dC (.str ("a" : Str))) (dCons (dTup (dCons (dTup (dCons (dTup (dCons (dC (.int 0)) (dCons (dC (.int 1)) (dNil)))) (dCons (dTup (dCons (dC (.int 3)) (dCons (dC (.int 1)) (dNil)))) (dCons (dTup (dCons (dC (.int 1)) (dCons (dC (.int 8)) (dNil)))) (dNil))))) (dNil))) (dCons (dTup (dNil)) (dCons (dV 2) (dNil)))))))) (dB (dBin (fIsN true) (dCB F_backed_by_both (dCons (dV 4) (dCons (dV 6) (dNil)))) (dC .non)))) (dRet (dC (.bl false))) (dPass)) (dSeq (dFor (iRange (dCons (dC (.int 5)) (dNil))) (gNm 7) (dSeq (dSet 8 (dCB F_law_shape_L (dCons (dV 1) (dNil)))) (dSeq (dPar 4 5 (dCons (dCB F_law_promise_L (dCons (dV 1) (dCons (dV 8) (dNil)))) (dCons (dCB F_law_promise_L (dCons (dV 1) (dCons (dV 8) (dNil)))) (dNil)))) (dSeq (dIfS (bOr (bNot (dTru (dCB F_law_pair_right_L (dCons (dV 4) (dCons (dV 5) (dNil)))))) (bNot (dTru (dCB F_law_others_right_L (dCons (dV 1) (dCons (dV 4) (dCons (dV 5) (dCons (dV 8) (dNil))))))))) (dRet (dC (.bl false))) (dPass)) (dSeq (dSet 9 (dCB F_law_promise_L (dCons (dV 1) (dCons (dCB F_law_any_L (dCons (dV 1) (dCons (dLst false (dCons (dTup (dCons (dBin (fAdd false) (dBin fIx (dV 8) (dC (.int 0))) (dC (.int 1))) (dCons (dBin fIx (dV 8) (dC (.int 1))) (dNil)))) (dCons (dTup (dCons (dBin fIx (dV 8) (dC (.int 0))) (dCons (dBin (fAdd false) (dBin fIx (dV 8) (dC (.int 1))) (dTup (dCons (dC (.int 2)) (dNil)))) (dNil)))) (dNil)))) (dNil)))) (dNil))))) (dSeq (dSet 10 (dCB F_law_any_L (dCons (dV 1) (dCons (dLst false (dCons (dC .non) (dCons (dC (.str ("?" : Str))) (dCons (dTup (dNil)) (dCons (dSl false (dV 4) (dNoPart) (dPart (dC (.int 3)))) (dCons (dBin (fAdd false) (dTup (dCons (dC (.str ("A" : Str))) (dNil))) (dSl false (dV 4) (dPart (dC (.int 1))) (dNoPart))) (dCons (dLst false (dCons (dBin fIx (dV 4) (dC (.int 0))) (dCons (dBin fIx (dV 4) (dC (.int 1))) (dCons (dBin fIx (dV 4) (dC (.int 2))) (dCons (dBin fIx (dV 4) (dC (.int 3))) (dNil)))))) (dCons (dDict0) (dNil))))))))) (dNil))))) (dSeq (dSet 11 (dLst false (dNil))) (dSeq (dFor (iSeq (dTup (dCons (dC (.glb ("backing_both" : Str))) (dCons (dC (.glb ("backed_by_both" : Str))) (dNil))))) (gNm 12) (dSet 11 (dBin (fAdd false) (dV 11) (dLst false (dCons (dCB F_law_two_said_L (dCons (dV 12) (dCons (dV 10) (dCons (dV 9) (dNil))))) (dCons (dCB F_law_two_said_L (dCons (dV 12) (dCons (dV 4) (dCons (dV 10) (dNil))))) (dCons (dCB F_law_two_said_L (dCons (dV 12) (dCons (dV 4) (dCons (dV 9) (dNil))))) (dNil)))))))) (dIfS (dB (dBin (fEq true) (dV 11) (dBin (fMul false) (dLst false (dCons (dC (.str ("promise" : Str))) (dCons (dC (.str ("promise" : Str))) (dCons (dC (.str ("unlike" : Str))) (dNil))))) (dC (.int 2))))) (dRet (dC (.bl false))) (dPass)))))))))) (dRet (dC (.bl true)))))))))
def F_law : List PV → Sto → Res PV := runF 1 13 d_law
theorem sc_law : FnScope (["script", "hand", "unit", "far", "one", "other", "same", "turn", "shape", "odd", "bad", "words", "ask"] : List Str) (["script"] : List Str) (defScope s_law) := ⟨rfl, rfl, rfl, by decide +kernel, rfl, by decide +kernel, by decide +kernel⟩
theorem fc_law {Z : Wd} (B : Bi Z.mg) (hT : Z.T.lm = none) (h_law_hand_L : FC Z 1 "_law_hand" F_law_hand_L) (h_backing_both : FC Z 10 "backing_both" F_backing_both) (h_backed_by_both : FC Z 10 "backed_by_both" F_backed_by_both) (h_law_shape_L : FC Z 2 "_law_shape" F_law_shape_L) (h_law_promise_L : FC Z 4 "_law_promise" F_law_promise_L) (h_law_pair_right_L : FC Z 11 "_law_pair_right" F_law_pair_right_L) (h_law_others_right_L : FC Z 9 "_law_others_right" F_law_others_right_L) (h_law_any_L : FC Z 2 "_law_any" F_law_any_L) (h_law_two_said_L : FC Z 23 "_law_two_said" F_law_two_said_L) (D : DefOk Z "law" s_law) : FC Z 24 "law" F_law := by
  have Sc := sc_law
  exact D.fc Sc (fun _ _ _ _ _ _ us hl => match us, hl with | [_], _ => rfl) fun f cdv A outer s H E C => by exact (css_cons (cs_set (i := 1) Sc.nd rfl (Or.inl rfl) (ce_call h_law_hand_L C (by decide) rfl (ca_cons (ce_v 0) ca_nil))) (css_cons (cs_asg (ce_tup (ca_cons (ce_tup (ca_cons (ce_tup (ca_cons ce_int (ca_cons ce_int ca_nil))) (ca_cons (ce_tup (ca_cons ce_int (ca_cons ce_int ca_nil))) (ca_cons (ce_tup (ca_cons ce_int (ca_cons ce_int ca_nil))) ca_nil)))) (ca_cons (ce_tup (ca_cons (ce_tup (ca_cons ce_int (ca_cons ce_int ca_nil))) (ca_cons (ce_tup (ca_cons ce_int (ca_cons ce_int ca_nil))) (ca_cons (ce_tup (ca_cons ce_int (ca_cons ce_int ca_nil))) ca_nil)))) ca_nil))) (cg_tup C.calm (cgs_cons (fun _ _ _ _ _ h => h) (cg_name (i := 2) Sc.nd rfl (Or.inl rfl)) (cgs_cons (fun _ _ _ _ _ h => h) (cg_name (i := 3) Sc.nd rfl (Or.inl rfl)) cgs_nil)))) (css_cons (cs_par (i := 4) (j := 5) C.calm Sc.nd rfl rfl (by decide) rfl rfl (ca_cons (ce_tup (ca_cons ce_str (ca_cons (ce_tup (ca_cons (ce_v 2) ca_nil)) (ca_cons (ce_tup ca_nil) (ca_cons (ce_v 2) ca_nil))))) (ca_cons (ce_tup (ca_cons ce_str (ca_cons (ce_tup (ca_cons (ce_v 3) ca_nil)) (ca_cons (ce_tup ca_nil) (ca_cons (ce_v 3) ca_nil))))) ca_nil)) rfl) (css_cons (cs_if (ct_w (cw_or (ct_cmp op_notN sn_notN (ce_call h_backing_both C (by decide) rfl (ca_cons (ce_v 4) (ca_cons (ce_v 5) ca_nil))) ce_non rfl) (cw_or1 (ct_cmp op_notN sn_notN (ce_call h_backed_by_both C (by decide) rfl (ca_cons (ce_v 4) (ca_cons (ce_v 5) ca_nil))) ce_non rfl)))) (css_one (cs_ret ce_bl)) css_nil) (css_cons (cs_set (i := 6) Sc.nd rfl (Or.inl rfl) (ce_tup (ca_cons ce_str (ca_cons (ce_tup (ca_cons (ce_v 3) ca_nil)) (ca_cons (ce_tup ca_nil) (ca_cons (ce_v 2) ca_nil)))))) (css_cons (cs_if (ct_w (cw_or (ct_cmp (op_neD (u64 C.u)) sn_ne (ce_call h_backing_both C (by decide) rfl (ca_cons (ce_v 4) (ca_cons (ce_v 6) ca_nil))) (ce_tup (ca_cons ce_str (ca_cons (ce_tup (ca_cons (ce_tup (ca_cons (ce_tup (ca_cons ce_int (ca_cons ce_int ca_nil))) (ca_cons (ce_tup (ca_cons ce_int (ca_cons ce_int ca_nil))) (ca_cons (ce_tup (ca_cons ce_int (ca_cons ce_int ca_nil))) ca_nil)))) ca_nil)) (ca_cons (ce_tup ca_nil) (ca_cons (ce_v 2) ca_nil))))) rfl) (cw_or1 (ct_cmp op_notN sn_notN (ce_call h_backed_by_both C (by decide) rfl (ca_cons (ce_v 4) (ca_cons (ce_v 6) ca_nil))) ce_non rfl)))) (css_one (cs_ret ce_bl)) css_nil) (css_cons (cs_for C.po C.calm (ci_range1 rfl B.b_range (ca_cons ce_int ca_nil) rfl len1) (cg_name (i := 7) Sc.nd rfl (Or.inl rfl)) (css_cons (cs_set (i := 8) Sc.nd rfl (Or.inl rfl) (ce_call h_law_shape_L C (by decide) rfl (ca_cons (ce_v 1) ca_nil))) (css_cons (cs_par (i := 4) (j := 5) C.calm Sc.nd rfl rfl (by decide) rfl rfl (ca_cons (ce_call h_law_promise_L C (by decide) rfl (ca_cons (ce_v 1) (ca_cons (ce_v 8) ca_nil))) (ca_cons (ce_call h_law_promise_L C (by decide) rfl (ca_cons (ce_v 1) (ca_cons (ce_v 8) ca_nil))) ca_nil)) rfl) (css_cons (cs_if (ct_w (cw_or (ct_not (ct_tru (ce_call h_law_pair_right_L C (by decide) rfl (ca_cons (ce_v 4) (ca_cons (ce_v 5) ca_nil))))) (cw_or1 (ct_not (ct_tru (ce_call h_law_others_right_L C (by decide) rfl (ca_cons (ce_v 1) (ca_cons (ce_v 4) (ca_cons (ce_v 5) (ca_cons (ce_v 8) ca_nil)))))))))) (css_one (cs_ret ce_bl)) css_nil) (css_cons (cs_set (i := 9) Sc.nd rfl (Or.inl rfl) (ce_call h_law_promise_L C (by decide) rfl (ca_cons (ce_v 1) (ca_cons (ce_call h_law_any_L C (by decide) rfl (ca_cons (ce_v 1) (ca_cons (ce_lst false (fun h => nomatch h) (ca_cons (ce_tup (ca_cons (ce_bin op_addM (sn_add false (fun h => nomatch h)) (ce_ix (ce_v 8) ce_int (fun _ _ => rfl)) ce_int) (ca_cons (ce_ix (ce_v 8) ce_int (fun _ _ => rfl)) ca_nil))) (ca_cons (ce_tup (ca_cons (ce_ix (ce_v 8) ce_int (fun _ _ => rfl)) (ca_cons (ce_bin op_addM (sn_add false (fun h => nomatch h)) (ce_ix (ce_v 8) ce_int (fun _ _ => rfl)) (ce_tup (ca_cons ce_int ca_nil))) ca_nil))) ca_nil))) ca_nil))) ca_nil)))) (css_cons (cs_set (i := 10) Sc.nd rfl (Or.inl rfl) (ce_call h_law_any_L C (by decide) rfl (ca_cons (ce_v 1) (ca_cons (ce_lst false (fun h => nomatch h) (ca_cons ce_non (ca_cons ce_str (ca_cons (ce_tup ca_nil) (ca_cons (ce_sl false (fun h => nomatch h) (ce_v 4) co_none (co_some ce_int)) (ca_cons (ce_bin op_addM (sn_add false (fun h => nomatch h)) (ce_tup (ca_cons ce_str ca_nil)) (ce_sl false (fun h => nomatch h) (ce_v 4) (co_some ce_int) co_none)) (ca_cons (ce_lst false (fun h => nomatch h) (ca_cons (ce_ix (ce_v 4) ce_int (fun _ _ => rfl)) (ca_cons (ce_ix (ce_v 4) ce_int (fun _ _ => rfl)) (ca_cons (ce_ix (ce_v 4) ce_int (fun _ _ => rfl)) (ca_cons (ce_ix (ce_v 4) ce_int (fun _ _ => rfl)) ca_nil))))) (ca_cons ce_dict0 ca_nil)))))))) ca_nil)))) (css_cons (cs_set (i := 11) Sc.nd rfl (Or.inl rfl) (ce_lst false (fun h => nomatch h) ca_nil)) (css_cons (cs_for C.po C.calm (ci_seq (ce_tup (ca_cons (ce_gf h_backing_both rfl) (ca_cons (ce_gf h_backed_by_both rfl) ca_nil)))) (cg_name (i := 12) Sc.nd rfl (Or.inl rfl)) (css_one (cs_set (i := 11) Sc.nd rfl (Or.inl rfl) (ce_bin op_addM (sn_add false (fun h => nomatch h)) (ce_v 11) (ce_lst false (fun h => nomatch h) (ca_cons (ce_call h_law_two_said_L C (by decide) rfl (ca_cons (ce_v 12) (ca_cons (ce_v 10) (ca_cons (ce_v 9) ca_nil)))) (ca_cons (ce_call h_law_two_said_L C (by decide) rfl (ca_cons (ce_v 12) (ca_cons (ce_v 4) (ca_cons (ce_v 10) ca_nil)))) (ca_cons (ce_call h_law_two_said_L C (by decide) rfl (ca_cons (ce_v 12) (ca_cons (ce_v 4) (ca_cons (ce_v 9) ca_nil)))) ca_nil)))))))) (css_one (cs_if (ct_cmp (op_neD (u64 C.u)) sn_ne (ce_v 11) (ce_bin op_mulM (sn_mul false (fun h => nomatch h)) (ce_lst false (fun h => nomatch h) (ca_cons ce_str (ca_cons ce_str (ca_cons ce_str ca_nil)))) ce_int) rfl) (css_one (cs_ret ce_bl)) css_nil)))))))))) (css_one (cs_ret ce_bl)))))))))
end G73
end
section
set_option Elab.async false
set_option linter.all false
set_option maxRecDepth 100000
set_option maxHeartbeats 4000000
namespace G73
open PySem PySem.Spec PyProof.Rows L2 Mi

/-! ### the mirror's small words, computed -/
theorem mul_sm {i j : Int} {S : Sto} (h1 : i.natAbs ≤ 2 ^ 4000) (h2 : j.natAbs ≤ 2 ^ 4000) : fMul false (.int i) (.int j) S = .ok (.int (i * j)) S := by
  have l : ∀ n : Nat, n ≤ 2 ^ 4000 → n.log2 ≤ 4000 := fun n h => by
    by_cases z : n = 0
    · rw [z]; decide
    · have := (Nat.log2_lt z (k := 4001)).mpr (Nat.lt_of_le_of_lt h (by decide +kernel))
      omega
  show (if i.natAbs.log2 + j.natAbs.log2 < 1000000 then Res.ok (PV.int (i * j)) S else .bad) = _
  rw [if_pos (by have := l _ h1; have := l _ h2; omega)]
theorem div_sm {i j : Int} {S : Sto} (h1 : 0 < j) (h2 : j.natAbs ≤ 2 ^ 4000) : fDiv (.int i) (.int j) S = .ok (.int (i.fdiv j)) S := by
  have z : j.natAbs ≠ 0 := by omega
  have := (Nat.log2_lt z (k := 4001)).mpr (Nat.lt_of_le_of_lt h2 (by decide +kernel))
  show (if j ≠ 0 ∧ j.natAbs.log2 < 9000 then Res.ok (PV.int (i.fdiv j)) S else .bad) = _
  rw [if_pos ⟨by omega, by omega⟩]
theorem mod_sm {i j : Int} {S : Sto} (h1 : 0 < j) : fMod (.int i) (.int j) S = .ok (.int (i.fmod j)) S := by
  show (if j ≠ 0 then Res.ok (PV.int (i.fmod j)) S else .bad) = _
  rw [if_pos (by omega)]
theorem eq_int (neg : Bool) {i j : Int} {S : Sto} : fEq neg (.int i) (.int j) S = .ok (.bl (if neg = true then !(i == j) else i == j)) S := rfl
theorem add_int {i j : Int} {S : Sto} : fAdd false (.int i) (.int j) S = .ok (.int (i + j)) S := rfl
theorem sub_int' {i j : Int} {S : Sto} : fSub (.int i) (.int j) S = .ok (.int (i - j)) S := rfl
theorem abs_int {i : Int} {S : Sto} : fAbs [.int i] S = .ok (.int (if i < 0 then -i else i)) S := rfl
theorem int_int {i : Int} {S : Sto} : fInt [.int i] S = .ok (.int i) S := rfl
/-! comprehensions and all() over data of one kind -/
theorem lcP_map {α : Type} {f : PV → EnP → Option EnP} {de : EnP → Sto → Res PV} {ρ : EnP} (enc g : α → PV) (P : α → Prop) (h : ∀ x, P x → ∃ ρ1, f (enc x) ρ = some ρ1 ∧ ∀ S, de ρ1 S = .ok (g x) S) :
    ∀ (xs : List α) (acc : List PV) (S : Sto), (∀ x ∈ xs, P x) → acc.length + xs.length ≤ lim → lcP f dYes de ρ (xs.map enc) acc S = .ok (acc ++ xs.map g) S
  | [], acc, S, _, _ => by simp [lcP]
  | x :: xs, acc, S, hP, hl => by
    obtain ⟨ρ1, e1, e2⟩ := h x (hP x List.mem_cons_self)
    rw [List.length_cons] at hl
    have ih := lcP_map enc g P h xs (acc ++ [g x]) S (fun y hy => hP y (List.mem_cons_of_mem _ hy)) (by rw [List.length_append, List.length_singleton]; omega)
    rw [List.map_cons, lcP]
    simp only [e1, dYes, e2]
    rw [if_pos (by omega), ih]
    simp
theorem dLc_map {α : Type} {di : EnP → Sto → Res (List PV)} {f : PV → EnP → Option EnP} {de : EnP → Sto → Res PV} {ρ : EnP} {vs : List Nat} {S : Sto} {xs : List α} (enc g : α → PV) (P : α → Prop) (hi : di ρ S = .ok (xs.map enc) S) (h : ∀ x, P x → ∃ ρ1, f (enc x) (wipeP ρ vs) = some ρ1 ∧ ∀ S, de ρ1 S = .ok (g x) S)
    (hP : ∀ x ∈ xs, P x) (hl : xs.length ≤ lim) : dLc false di f dYes de vs ρ S = .ok (.nl (xs.map g)) S := by
  unfold dLc
  rw [hi, Res.bind_ok, lcP_map enc g P h xs [] S hP (by simpa using hl), Res.bind_ok]
  unfold mkLst
  rw [if_pos (by simpa using hl)]
  simp
theorem bls_map {α : Type} (p : α → Bool) : ∀ xs : List α, blsOf (xs.map fun x => PV.bl (p x)) = some (xs.map p)
  | [] => rfl
  | x :: xs => by simp [blsOf, bls_map p xs]
theorem all_map {α : Type} (p : α → Bool) (xs : List α) (S : Sto) : fAll [.nl (xs.map fun x => PV.bl (p x))] S = .ok (.bl (xs.all p)) S := by
  show (match blsOf (xs.map fun x => PV.bl (p x)) with | some bs => Res.ok (PV.bl (bs.all id)) S | none => .bad) = _
  rw [bls_map]
  simp [List.all_map]
theorem tuple_nl {xs : List PV} {S : Sto} (h : xs.length ≤ lim) : fTuple [.nl xs] S = .ok (.tup xs) S := by
  show (if xs.length ≤ lim then Res.ok (PV.tup xs) S else .bad) = _
  rw [if_pos h]
theorem len_tup {xs : List PV} {S : Sto} : fLen [.tup xs] S = .ok (.int xs.length) S := rfl
theorem len_nl {xs : List PV} {S : Sto} : fLen [.nl xs] S = .ok (.int xs.length) S := rfl
theorem zip_map {α β : Type} (e1 : α → PV) (e2 : β → PV) (xs : List α) (ys : List β) : zipP (xs.map e1) (ys.map e2) = (xs.zip ys).map fun p => PV.tup [e1 p.1, e2 p.2] := by
  unfold zipP
  rw [List.zip_map, List.map_map]
  rfl
/-! fractions, holds, promises -/
abbrev Fr := Int × Int
def eQ (x : Fr) : PV := .tup [.int x.1, .int x.2]
structure Hd where
  lo : Fr
  hi : Fr
  off : Fr
  deriving DecidableEq
def eH (h : Hd) : PV := .tup [eQ h.lo, eQ h.hi, eQ h.off]
structure QOk (x : Fr) : Prop where
  n : x.1.natAbs ≤ 1000
  p : 0 < x.2
  d : x.2 ≤ 1000
  g : Int.gcd x.1 x.2 = 1
def leB (x y : Fr) : Bool := decide (x.1 * y.2 ≤ y.1 * x.2)
def mn (x y : Fr) : Fr := if leB x y = true then x else y
def mx (x y : Fr) : Fr := if leB x y = true then y else x
theorem sm1000 {n : Nat} (h : n ≤ 1000) : n ≤ 2 ^ 4000 := Nat.le_trans h (by decide +kernel)
theorem QOk.s1 {x : Fr} (h : QOk x) : x.1.natAbs ≤ 2 ^ 4000 := sm1000 h.n
theorem QOk.s2 {x : Fr} (h : QOk x) : x.2.natAbs ≤ 2 ^ 4000 := sm1000 (by have := h.p; have := h.d; omega)
theorem ix_q0 (x : Fr) (S : Sto) : fIx (eQ x) (.int 0) S = .ok (.int x.1) S := rfl
theorem ix_q1 (x : Fr) (S : Sto) : fIx (eQ x) (.int 1) S = .ok (.int x.2) S := rfl
theorem ix_h0 (x : Hd) (S : Sto) : fIx (eH x) (.int 0) S = .ok (eQ x.lo) S := rfl
theorem ix_h1 (x : Hd) (S : Sto) : fIx (eH x) (.int 1) S = .ok (eQ x.hi) S := rfl
theorem ix_h2 (x : Hd) (S : Sto) : fIx (eH x) (.int 2) S = .ok (eQ x.off) S := rfl
@[simp] theorem isNon_non : isNon .non = true := rfl
@[simp] theorem isNon_h (h : Hd) : isNon (eH h) = false := rfl
theorem fold_h (a b c : Fr) : PV.tup [eQ a, eQ b, eQ c] = eH ⟨a, b, c⟩ := rfl
theorem e_at_most {x y : Fr} {S : Sto} (hx : QOk x) (hy : QOk y) : F_raw_at_most [eQ x, eQ y] S = .ok (.bl (leB x y)) S := by
  simp [F_raw_at_most, d_raw_at_most, runF, startP, endOf, dRet, dRetN, dIf, dIfS, dB, dBin, dUn, dV, dC, sE, asB, dSeq, dSet, dPar, dPar3, dAsg, dExpr, dAnd, dOr, dNot, bAnd, bOr, bNot, dTru, dCB, dCons, dNil, dTup, dLst, dChain, dPass, fCmpI, fIsN, gTp, gsCons, gsNil, gNm, mkTup, dSl, dPart, dNoPart, lim, iLt, iLe, iGt, iGe, ix_q0, ix_q1, mul_sm hx.s1 hy.s2, mul_sm hy.s1 hx.s2, leB]
theorem e_lesser {x y : Fr} {S : Sto} (hx : QOk x) (hy : QOk y) : F_raw_lesser [eQ x, eQ y] S = .ok (eQ (mn x y)) S := by
  cases h : leB x y <;> simp [F_raw_lesser, d_raw_lesser, runF, startP, endOf, dRet, dRetN, dIf, dIfS, dB, dBin, dUn, dV, dC, sE, asB, dSeq, dSet, dPar, dPar3, dAsg, dExpr, dAnd, dOr, dNot, bAnd, bOr, bNot, dTru, dCB, dCons, dNil, dTup, dLst, dChain, dPass, fCmpI, fIsN, gTp, gsCons, gsNil, gNm, mkTup, dSl, dPart, dNoPart, lim, iLt, iLe, iGt, iGe, e_at_most hx hy, truP, mn, h]
theorem e_greater {x y : Fr} {S : Sto} (hx : QOk x) (hy : QOk y) : F_raw_greater [eQ x, eQ y] S = .ok (eQ (mx x y)) S := by
  cases h : leB x y <;> simp [F_raw_greater, d_raw_greater, runF, startP, endOf, dRet, dRetN, dIf, dIfS, dB, dBin, dUn, dV, dC, sE, asB, dSeq, dSet, dPar, dPar3, dAsg, dExpr, dAnd, dOr, dNot, bAnd, bOr, bNot, dTru, dCB, dCons, dNil, dTup, dLst, dChain, dPass, fCmpI, fIsN, gTp, gsCons, gsNil, gNm, mkTup, dSl, dPart, dNoPart, lim, iLt, iLe, iGt, iGe, e_at_most hx hy, truP, mx, h]
theorem e_lesserL {x y : Fr} {S : Sto} (hx : QOk x) (hy : QOk y) : F_law_lesser_L [eQ x, eQ y] S = .ok (eQ (mn x y)) S := by
  by_cases h : x.1 * y.2 ≤ y.1 * x.2 <;> simp [F_law_lesser_L, d_law_lesser_L, runF, startP, endOf, dRet, dRetN, dIf, dIfS, dB, dBin, dUn, dV, dC, sE, asB, dSeq, dSet, dPar, dPar3, dAsg, dExpr, dAnd, dOr, dNot, bAnd, bOr, bNot, dTru, dCB, dCons, dNil, dTup, dLst, dChain, dPass, fCmpI, fIsN, gTp, gsCons, gsNil, gNm, mkTup, dSl, dPart, dNoPart, lim, iLt, iLe, iGt, iGe, ix_q0, ix_q1, mul_sm hx.s1 hy.s2, mul_sm hy.s1 hx.s2, mn, leB, h]
theorem e_greaterL {x y : Fr} {S : Sto} (hx : QOk x) (hy : QOk y) : F_law_greater_L [eQ x, eQ y] S = .ok (eQ (mx x y)) S := by
  by_cases h : x.1 * y.2 ≤ y.1 * x.2 <;> simp [F_law_greater_L, d_law_greater_L, runF, startP, endOf, dRet, dRetN, dIf, dIfS, dB, dBin, dUn, dV, dC, sE, asB, dSeq, dSet, dPar, dPar3, dAsg, dExpr, dAnd, dOr, dNot, bAnd, bOr, bNot, dTru, dCB, dCons, dNil, dTup, dLst, dChain, dPass, fCmpI, fIsN, gTp, gsCons, gsNil, gNm, mkTup, dSl, dPart, dNoPart, lim, iLt, iLe, iGt, iGe, ix_q0, ix_q1, mul_sm hx.s1 hy.s2, mul_sm hy.s1 hx.s2, mx, leB, h]
theorem mn_ok {x y : Fr} (hx : QOk x) (hy : QOk y) : QOk (mn x y) := by unfold mn; split <;> assumption
theorem mx_ok {x y : Fr} (hx : QOk x) (hy : QOk y) : QOk (mx x y) := by unfold mx; split <;> assumption
/-! holds -/
structure HOk (h : Hd) : Prop where
  lo : QOk h.lo
  hi : QOk h.hi
  off : QOk h.off
  le : leB h.lo h.hi = true
  nn : 0 ≤ h.off.1
def jn (a b : Hd) : Hd := ⟨mn a.lo b.lo, mx a.hi b.hi, mx a.off b.off⟩
def mt (a b : Hd) : Option Hd := if leB (mx a.lo b.lo) (mn a.hi b.hi) = true then some ⟨mx a.lo b.lo, mn a.hi b.hi, mn a.off b.off⟩ else none
def cov (a b : Hd) : Bool := leB a.lo b.lo && (leB b.hi a.hi && leB b.off a.off)
def eO : Option Hd → PV
  | none => .non
  | some h => eH h
theorem e_joined0 {a b : Hd} {S : Sto} (ha : HOk a) (hb : HOk b) : F_raw_joined [eH a, eH b] S = .ok (eH (jn a b)) S := by
  simp [F_raw_joined, d_raw_joined, runF, startP, endOf, dRet, dRetN, dIf, dIfS, dB, dBin, dUn, dV, dC, sE, asB, dSeq, dSet, dPar, dPar3, dAsg, dExpr, dAnd, dOr, dNot, bAnd, bOr, bNot, dTru, dCB, dCons, dNil, dTup, dLst, dChain, dPass, fCmpI, fIsN, gTp, gsCons, gsNil, gNm, mkTup, dSl, dPart, dNoPart, lim, iLt, iLe, iGt, iGe, ix_h0, ix_h1, ix_h2, e_lesser ha.lo hb.lo, e_greater ha.hi hb.hi, e_greater ha.off hb.off, jn, fold_h]
theorem e_union {a b : Hd} {S : Sto} (ha : HOk a) (hb : HOk b) : F_law_union_L [eH a, eH b] S = .ok (eH (jn a b)) S := by
  simp [F_law_union_L, d_law_union_L, runF, startP, endOf, dRet, dRetN, dIf, dIfS, dB, dBin, dUn, dV, dC, sE, asB, dSeq, dSet, dPar, dPar3, dAsg, dExpr, dAnd, dOr, dNot, bAnd, bOr, bNot, dTru, dCB, dCons, dNil, dTup, dLst, dChain, dPass, fCmpI, fIsN, gTp, gsCons, gsNil, gNm, mkTup, dSl, dPart, dNoPart, lim, iLt, iLe, iGt, iGe, ix_h0, ix_h1, ix_h2, e_lesserL ha.lo hb.lo, e_greaterL ha.hi hb.hi, e_greaterL ha.off hb.off, jn, fold_h]
theorem e_met {a b : Hd} {S : Sto} (ha : HOk a) (hb : HOk b) : F_met_holds [eH a, eH b] S = .ok (eO (mt a b)) S := by
  cases h : leB (mx a.lo b.lo) (mn a.hi b.hi) <;> simp [F_met_holds, d_met_holds, runF, startP, endOf, dRet, dRetN, dIf, dIfS, dB, dBin, dUn, dV, dC, sE, asB, dSeq, dSet, dPar, dPar3, dAsg, dExpr, dAnd, dOr, dNot, bAnd, bOr, bNot, dTru, dCB, dCons, dNil, dTup, dLst, dChain, dPass, fCmpI, fIsN, gTp, gsCons, gsNil, gNm, mkTup, dSl, dPart, dNoPart, lim, iLt, iLe, iGt, iGe, ix_h0, ix_h1, ix_h2, e_greater ha.lo hb.lo, e_lesser ha.hi hb.hi, e_lesser ha.off hb.off, e_at_most (mx_ok ha.lo hb.lo) (mn_ok ha.hi hb.hi), truP, mt, h, eO, fold_h]
theorem gt_le {x y : Fr} : decide (y.1 * x.2 < x.1 * y.2) = !leB x y := by
  unfold leB
  by_cases h : x.1 * y.2 ≤ y.1 * x.2
  · simp [h, Int.not_lt.mpr h]
  · simp [h, Int.not_le.mp h]
theorem e_common {a b : Hd} {S : Sto} (ha : HOk a) (hb : HOk b) : F_law_common_L [eH a, eH b] S = .ok (eO (mt a b)) S := by
  have h1 := mx_ok ha.lo hb.lo
  have h2 := mn_ok ha.hi hb.hi
  have g := gt_le (x := mx a.lo b.lo) (y := mn a.hi b.hi)
  cases h : leB (mx a.lo b.lo) (mn a.hi b.hi) <;> rw [h] at g <;> simp only [Bool.not_true, Bool.not_false, decide_eq_true_eq, decide_eq_false_iff_not] at g <;> simp [F_law_common_L, d_law_common_L, runF, startP, endOf, dRet, dRetN, dIf, dIfS, dB, dBin, dUn, dV, dC, sE, asB, dSeq, dSet, dPar, dPar3, dAsg, dExpr, dAnd, dOr, dNot, bAnd, bOr, bNot, dTru, dCB, dCons, dNil, dTup, dLst, dChain, dPass, fCmpI, fIsN, gTp, gsCons, gsNil, gNm, mkTup, dSl, dPart, dNoPart, lim, iLt, iLe, iGt, iGe, ix_h0, ix_h1, ix_h2, ix_q0, ix_q1, e_greaterL ha.lo hb.lo, e_lesserL ha.hi hb.hi, e_lesserL ha.off hb.off, mul_sm h1.s1 h2.s2, mul_sm h2.s1 h1.s2, mt, h, eO, fold_h, g]
theorem e_covers {a b : Hd} {S : Sto} (ha : HOk a) (hb : HOk b) : F_raw_covers [eH a, eH b] S = .ok (.bl (cov a b)) S := by
  cases h1 : leB a.lo b.lo <;> cases h2 : leB b.hi a.hi <;> simp [F_raw_covers, d_raw_covers, runF, startP, endOf, dRet, dRetN, dIf, dIfS, dB, dBin, dUn, dV, dC, sE, asB, dSeq, dSet, dPar, dPar3, dAsg, dExpr, dAnd, dOr, dNot, bAnd, bOr, bNot, dTru, dCB, dCons, dNil, dTup, dLst, dChain, dPass, fCmpI, fIsN, gTp, gsCons, gsNil, gNm, mkTup, dSl, dPart, dNoPart, lim, iLt, iLe, iGt, iGe, ix_h0, ix_h1, ix_h2, e_at_most ha.lo hb.lo, e_at_most hb.hi ha.hi, e_at_most hb.off ha.off, truP, cov, h1, h2]
end G73
end
section
set_option Elab.async false
set_option linter.all false
set_option maxRecDepth 100000
set_option maxHeartbeats 4000000
namespace G73
open PySem PySem.Spec PyProof.Rows L2 Mi

/-! ### common divisors -/
theorem fmod_nat (a b : Nat) : ((a : Int)).fmod (b : Int) = ((a % b : Nat) : Int) := by
  rw [Int.fmod_eq_emod_of_nonneg _ (by omega)]
  exact (Int.natCast_emod a b).symm
theorem gcd_loop (n : Nat) : ∀ (a b : Nat) (S : Sto), b < n → whileP (dB (dBin (fCmpI iGt) (dV 1) (dC (.int 0)))) (dPar 0 1 (dCons (dV 1) (dCons (dBin fMod (dV 0) (dV 1)) (dNil)))) n [some (.int a), some (.int b)] S = .nx [some (.int (Nat.gcd a b)), some (.int 0)] S := by
  induction n with
  | zero => intro a b S h; omega
  | succ n ih =>
    intro a b S h
    rw [whileP]
    by_cases hb : b = 0
    · subst hb
      simp [runF, startP, endOf, dRet, dRetN, dIf, dIfS, dB, dBin, dUn, dV, dC, sE, asB, dSeq, dSet, dPar, dPar3, dAsg, dExpr, dAnd, dOr, dNot, bAnd, bOr, bNot, dTru, dCB, dCons, dNil, dTup, dLst, dChain, dPass, fCmpI, fIsN, gTp, gsCons, gsNil, gNm, mkTup, dSl, dPart, dNoPart, lim, iLt, iLe, iGt, iGe]
    · have hp : (0 : Int) < (b : Int) := by omega
      have e : fMod (.int a) (.int b) S = .ok (.int ((a % b : Nat) : Int)) S := by rw [mod_sm hp, fmod_nat]
      have lt := Nat.mod_lt a (by omega : 0 < b)
      have step := ih b (a % b) S (by omega)
      have hg : Nat.gcd b (a % b) = Nat.gcd a b := by rw [Nat.gcd_comm a b, Nat.gcd_rec b a, Nat.gcd_comm]
      simp only [runF, startP, endOf, dRet, dRetN, dIf, dIfS, dB, dBin, dUn, dV, dC, sE, asB, dSeq, dSet, dPar, dPar3, dAsg, dExpr, dAnd, dOr, dNot, bAnd, bOr, bNot, dTru, dCB, dCons, dNil, dTup, dLst, dChain, dPass, fCmpI, fIsN, gTp, gsCons, gsNil, gNm, mkTup, dSl, dPart, dNoPart, lim, iLt, iLe, iGt, iGe, List.getElem?_cons_succ, List.getElem?_cons_zero, Res.bind_ok, iGt, decide_eq_true hp, if_true, e, List.set_cons_zero, List.set_cons_succ]
      rw [step, hg]
theorem e_gcd {a b : Int} {S : Sto} (hb : b.natAbs < fuel) : F_common_divisor [.int a, .int b] S = .ok (.int (Int.gcd a b)) S := by
  have ab : ∀ i : Int, (if i < 0 then -i else i) = (i.natAbs : Int) := fun i => by split <;> omega
  have h := gcd_loop fuel a.natAbs b.natAbs S hb
  have e : F_common_divisor [.int a, .int b] S = endOf (match whileP (dB (dBin (fCmpI iGt) (dV 1) (dC (.int 0)))) (dPar 0 1 (dCons (dV 1) (dCons (dBin fMod (dV 0) (dV 1)) (dNil)))) fuel [some (.int (if a < 0 then -a else a)), some (.int (if b < 0 then -b else b))] S with
    | .nx ρ' S' => dRet (dV 0) ρ' S'
    | r => r) := rfl
  rw [e, ab, ab, h]
  rfl
theorem fuel_big {n : Nat} (h : n ≤ 2 ^ 1000) : n < fuel := Nat.lt_of_le_of_lt h (by decide +kernel)
/-! ### what is a fraction, a hold -/
theorem isi_tup (xs : List PV) (S : Sto) : fIsi [.tup xs, .ty "tuple"] S = .ok (.bl true) S := rfl
def big : Int := 10 ^ 300
theorem big_gt : (1000 : Int) < big := by decide +kernel
theorem e_too_great (S : Sto) : F_too_great [] S = .ok (.int big) S := by kernel_rfl
theorem e_fraction {x : Fr} {S : Sto} (h : QOk x) : F_is_fraction [eQ x] S = .ok (.bl true) S := by
  have h1 : dLc false (iSeq (dV 0)) (cNm 1) (dYes) (dCB F_is_integer (dCons (dV 1) (dNil))) [1] [some (eQ x), none, none] S = .ok (.nl [.bl true, .bl true]) S := rfl
  have h2 : fAll [.nl [.bl true, .bl true]] S = .ok (.bl true) S := rfl
  have h3 : fIsi [eQ x, .ty "tuple"] S = .ok (.bl true) S := rfl
  have h4 : fLen [eQ x] S = .ok (.int 2) S := rfl
  have h5 := e_gcd (a := x.1) (b := x.2) (S := S) (fuel_big (Nat.le_trans (by have := h.p; have := h.d; omega : x.2.natAbs ≤ 1000) (by decide +kernel)))
  have p := h.p
  have l1 : x.2 < big := Int.lt_of_le_of_lt h.d big_gt
  have l2 : ¬ big ≤ (if x.1 < 0 then -x.1 else x.1) := by
    have := h.n
    have := big_gt
    split <;> omega
  have h6 : (x.1.gcd x.2 : Int) = 1 := by rw [h.g]; rfl
  simp [F_is_fraction, d_is_fraction, runF, startP, endOf, dRet, dRetN, dIf, dIfS, dB, dBin, dUn, dV, dC, sE, asB, dSeq, dSet, dPar, dPar3, dAsg, dExpr, dAnd, dOr, dNot, bAnd, bOr, bNot, dTru, dCB, dCons, dNil, dTup, dLst, dChain, dPass, fCmpI, fIsN, gTp, gsCons, gsNil, gNm, mkTup, dSl, dPart, dNoPart, lim, iLt, iLe, iGt, iGe, h1, h2, h3, h4, h5, eq_int, truP, e_too_great, ix_q0, ix_q1, abs_int, p, l1, l2, h6]

theorem const_true {α : Type} (xs : List α) : (xs.map fun _ => PV.bl true) = xs.map fun x => PV.bl ((fun _ => true) x) := rfl
theorem all_true {α : Type} (xs : List α) (S : Sto) : fAll [.nl (xs.map fun _ => PV.bl true)] S = .ok (.bl true) S := by
  have h := all_map (fun _ : α => true) xs S
  rw [h]
  simp
theorem e_hold {h : Hd} {S : Sto} (k : HOk h) : F_is_hold [eH h] S = .ok (.bl true) S := by
  have h1 : dLc false (iSeq (dV 0)) (cNm 1) (dYes) (dCB F_is_fraction (dCons (dV 1) (dNil))) [1] [some (eH h), none] S = .ok (.nl ([h.lo, h.hi, h.off].map fun _ => PV.bl true)) S :=
    dLc_map eQ (fun _ => PV.bl true) QOk rfl (fun x hx => ⟨_, rfl, fun S => by
      show (F_is_fraction [eQ x] S) = _
      exact e_fraction hx⟩) (by simp; exact ⟨k.lo, k.hi, k.off⟩) (by simp [lim])
  have h2 : fAll [.nl [.bl true, .bl true, .bl true]] S = .ok (.bl true) S := rfl
  have h3 : fIsi [eH h, .ty "tuple"] S = .ok (.bl true) S := rfl
  have h4 : fLen [eH h] S = .ok (.int 3) S := rfl
  have n := k.nn
  simp [F_is_hold, d_is_hold, runF, startP, endOf, dRet, dRetN, dIf, dIfS, dB, dBin, dUn, dV, dC, sE, asB, dSeq, dSet, dPar, dPar3, dAsg, dExpr, dAnd, dOr, dNot, bAnd, bOr, bNot, dTru, dCB, dCons, dNil, dTup, dLst, dChain, dPass, fCmpI, fIsN, gTp, gsCons, gsNil, gNm, mkTup, dSl, dPart, dNoPart, lim, iLt, iLe, iGt, iGe, h1, h2, h3, h4, eq_int, truP, ix_h0, ix_h1, ix_h2, ix_q0, e_at_most k.lo k.hi, k.le, n]
theorem e_check_hold {h : Hd} {S : Sto} (k : HOk h) : F_check_hold [eH h] S = .ok .non S := by
  simp [F_check_hold, d_check_hold, runF, startP, endOf, dRet, dRetN, dIf, dIfS, dB, dBin, dUn, dV, dC, sE, asB, dSeq, dSet, dPar, dPar3, dAsg, dExpr, dAnd, dOr, dNot, bAnd, bOr, bNot, dTru, dCB, dCons, dNil, dTup, dLst, dChain, dPass, fCmpI, fIsN, gTp, gsCons, gsNil, gNm, mkTup, dSl, dPart, dNoPart, lim, iLt, iLe, iGt, iGe, e_hold k, truP]
theorem e_joined {a b : Hd} {S : Sto} (ha : HOk a) (hb : HOk b) : F_joined [eH a, eH b] S = .ok (eH (jn a b)) S := by
  simp [F_joined, d_joined, runF, startP, endOf, dRet, dRetN, dIf, dIfS, dB, dBin, dUn, dV, dC, sE, asB, dSeq, dSet, dPar, dPar3, dAsg, dExpr, dAnd, dOr, dNot, bAnd, bOr, bNot, dTru, dCB, dCons, dNil, dTup, dLst, dChain, dPass, fCmpI, fIsN, gTp, gsCons, gsNil, gNm, mkTup, dSl, dPart, dNoPart, lim, iLt, iLe, iGt, iGe, e_check_hold ha, e_check_hold hb, e_joined0 ha hb]
/-! promises -/
structure Pm where
  nm : Str
  ins : List Hd
  rows : List (Int × Hd)
  out : Hd
  deriving DecidableEq
def eR (r : Int × Hd) : PV := .tup [.int r.1, eH r.2]
def eP (p : Pm) : PV := .tup [.str p.nm, .tup (p.ins.map eH), .tup (p.rows.map eR), eH p.out]
@[simp] theorem isNon_p (p : Pm) : isNon (eP p) = false := rfl
structure ROk (r : Int × Hd) : Prop where
  a : 1 ≤ r.1
  b : r.1 ≤ 30
  h : HOk r.2
structure POk (p : Pm) : Prop where
  nm : p.nm ∈ (["a", "bb", "proc", "b"] : List Str)
  il : p.ins.length ≤ 6
  ins : ∀ h ∈ p.ins, HOk h
  rl : p.rows.length ≤ 3
  rows : ∀ r ∈ p.rows, ROk r
  out : HOk p.out
theorem e_name {n : Str} {S : Sto} (h : n ∈ (["a", "bb", "proc", "b"] : List Str)) : F_is_name [.str n] S = .ok (.bl true) S := by
  simp only [List.mem_cons, List.not_mem_nil, or_false] at h
  rcases h with rfl | rfl | rfl | rfl <;> kernel_rfl
theorem e_within {i a b : Int} {S : Sto} : F_is_within [.int i, .int a, .int b] S = .ok (.bl (decide (a ≤ i) && decide (i ≤ b))) S := by
  have h : F_is_integer [.int i] S = .ok (.bl true) S := rfl
  by_cases q : a ≤ i <;> simp [F_is_within, d_is_within, runF, startP, endOf, dRet, dRetN, dIf, dIfS, dB, dBin, dUn, dV, dC, sE, asB, dSeq, dSet, dPar, dPar3, dAsg, dExpr, dAnd, dOr, dNot, bAnd, bOr, bNot, dTru, dCB, dCons, dNil, dTup, dLst, dChain, dPass, fCmpI, fIsN, gTp, gsCons, gsNil, gNm, mkTup, dSl, dPart, dNoPart, lim, iLt, iLe, iGt, iGe, h, q]
theorem ix_r0 (x : Int × Hd) (S : Sto) : fIx (eR x) (.int 0) S = .ok (.int x.1) S := rfl
theorem ix_r1 (x : Int × Hd) (S : Sto) : fIx (eR x) (.int 1) S = .ok (eH x.2) S := rfl
theorem ix_p0 (x : Pm) (S : Sto) : fIx (eP x) (.int 0) S = .ok (.str x.nm) S := rfl
theorem ix_p1 (x : Pm) (S : Sto) : fIx (eP x) (.int 1) S = .ok (.tup (x.ins.map eH)) S := rfl
theorem ix_p2 (x : Pm) (S : Sto) : fIx (eP x) (.int 2) S = .ok (.tup (x.rows.map eR)) S := rfl
theorem ix_p3 (x : Pm) (S : Sto) : fIx (eP x) (.int 3) S = .ok (eH x.out) S := rfl
theorem e_row {r : Int × Hd} {S : Sto} (h : ROk r) : F_is_row [eR r] S = .ok (.bl true) S := by
  have h3 : fIsi [eR r, .ty "tuple"] S = .ok (.bl true) S := rfl
  have h4 : fLen [eR r] S = .ok (.int 2) S := rfl
  have a := h.a
  have b := h.b
  simp [F_is_row, d_is_row, runF, startP, endOf, dRet, dRetN, dIf, dIfS, dB, dBin, dUn, dV, dC, sE, asB, dSeq, dSet, dPar, dPar3, dAsg, dExpr, dAnd, dOr, dNot, bAnd, bOr, bNot, dTru, dCB, dCons, dNil, dTup, dLst, dChain, dPass, fCmpI, fIsN, gTp, gsCons, gsNil, gNm, mkTup, dSl, dPart, dNoPart, lim, iLt, iLe, iGt, iGe, h3, h4, eq_int, ix_r0, ix_r1, e_within, e_hold h.h, a, b]
theorem e_rows {rs : List (Int × Hd)} {S : Sto} (hl : rs.length ≤ 3) (h : ∀ r ∈ rs, ROk r) : F_are_rows [.tup (rs.map eR)] S = .ok (.bl true) S := by
  have h1 : dLc false (iSeq (dV 0)) (cNm 1) (dYes) (dCB F_is_row (dCons (dV 1) (dNil))) [1] [some (.tup (rs.map eR)), none] S = .ok (.nl (rs.map fun _ => PV.bl true)) S :=
    dLc_map eR (fun _ => PV.bl true) ROk rfl (fun x hx => ⟨_, rfl, fun S => by
      show (F_is_row [eR x] S) = _
      exact e_row hx⟩) h (by unfold lim; omega)
  have h2 := all_true rs S
  have h5 : (rs.length : Int) ≤ 3 := by omega
  simp [F_are_rows, d_are_rows, runF, startP, endOf, dRet, dRetN, dIf, dIfS, dB, dBin, dUn, dV, dC, sE, asB, dSeq, dSet, dPar, dPar3, dAsg, dExpr, dAnd, dOr, dNot, bAnd, bOr, bNot, dTru, dCB, dCons, dNil, dTup, dLst, dChain, dPass, fCmpI, fIsN, gTp, gsCons, gsNil, gNm, mkTup, dSl, dPart, dNoPart, lim, iLt, iLe, iGt, iGe, h1, h2, isi_tup, len_tup, h5]
theorem e_promise {p : Pm} {S : Sto} (h : POk p) : F_is_promise [eP p] S = .ok (.bl true) S := by
  have h1 : ∀ ρ2, dLc false (iSeq (dV 1)) (cNm 2) (dYes) (dCB F_is_hold (dCons (dV 2) (dNil))) [2] [some (eP p), some (.tup (p.ins.map eH)), ρ2] S = .ok (.nl (p.ins.map fun _ => PV.bl true)) S := fun ρ2 =>
    dLc_map eH (fun _ => PV.bl true) HOk rfl (fun x hx => ⟨_, rfl, fun S => by
      show (F_is_hold [eH x] S) = _
      exact e_hold hx⟩) h.ins (by have := h.il; unfold lim; omega)
  have h2 := all_true p.ins S
  have h3 : fIsi [eP p, .ty "tuple"] S = .ok (.bl true) S := rfl
  have h4 : fLen [eP p] S = .ok (.int 4) S := rfl
  have h5 : ¬ (6 : Int) < (p.ins.length : Int) := by have := h.il; omega
  simp [F_is_promise, d_is_promise, runF, startP, endOf, dRet, dRetN, dIf, dIfS, dB, dBin, dUn, dV, dC, sE, asB, dSeq, dSet, dPar, dPar3, dAsg, dExpr, dAnd, dOr, dNot, bAnd, bOr, bNot, dTru, dCB, dCons, dNil, dTup, dLst, dChain, dPass, fCmpI, fIsN, gTp, gsCons, gsNil, gNm, mkTup, dSl, dPart, dNoPart, lim, iLt, iLe, iGt, iGe, h1, h2, h3, h4, eq_int, truP, ix_p0, ix_p1, ix_p2, ix_p3, e_name h.nm, isi_tup, len_tup, h5, e_rows h.rl h.rows, e_hold h.out]
theorem e_check {p : Pm} {S : Sto} (h : POk p) : F_check_promise [eP p] S = .ok .non S := by
  simp [F_check_promise, d_check_promise, runF, startP, endOf, dRet, dRetN, dIf, dIfS, dB, dBin, dUn, dV, dC, sE, asB, dSeq, dSet, dPar, dPar3, dAsg, dExpr, dAnd, dOr, dNot, bAnd, bOr, bNot, dTru, dCB, dCons, dNil, dTup, dLst, dChain, dPass, fCmpI, fIsN, gTp, gsCons, gsNil, gNm, mkTup, dSl, dPart, dNoPart, lim, iLt, iLe, iGt, iGe, e_promise h, truP]
end G73
end
section
set_option Elab.async false
set_option linter.all false
set_option maxRecDepth 100000
set_option maxHeartbeats 4000000
namespace G73
open PySem PySem.Spec PyProof.Rows L2 Mi

/-! ### == of what is drawn -/
def dQ (x : Fr) : PyData := .tuple [.int x.1, .int x.2]
def dH (h : Hd) : PyData := .tuple [dQ h.lo, dQ h.hi, dQ h.off]
def dR (r : Int × Hd) : PyData := .tuple [.int r.1, dH r.2]
def dP (p : Pm) : PyData := .tuple [.str p.nm, .tuple (p.ins.map dH), .tuple (p.rows.map dR), dH p.out]
theorem toDL_map {α : Type} {e : α → PV} {d : α → PyData} (h : ∀ x, toD (e x) = some (d x)) : ∀ xs : List α, toDL (xs.map e) = some (xs.map d)
  | [] => rfl
  | x :: xs => by
    rw [List.map_cons, toDL, h x, toDL_map h xs]
    rfl
theorem toD_h (h : Hd) : toD (eH h) = some (dH h) := rfl
theorem toD_r (r : Int × Hd) : toD (eR r) = some (dR r) := rfl
theorem toD_ins (xs : List Hd) : toD (.tup (xs.map eH)) = some (.tuple (xs.map dH)) := by rw [toD, toDL_map toD_h]; rfl
theorem toD_rows (xs : List (Int × Hd)) : toD (.tup (xs.map eR)) = some (.tuple (xs.map dR)) := by rw [toD, toDL_map toD_r]; rfl
theorem toD_p (p : Pm) : toD (eP p) = some (dP p) := by
  have h : toDL [.str p.nm, .tup (p.ins.map eH), .tup (p.rows.map eR), eH p.out] = some [.str p.nm, .tuple (p.ins.map dH), .tuple (p.rows.map dR), dH p.out] := by
    simp [toDL, toDL_map toD_h, toDL_map toD_r, toD_h, toD]
  show (toDL [.str p.nm, .tup (p.ins.map eH), .tup (p.rows.map eR), eH p.out]).map PyData.tuple = _
  rw [h]
  rfl
theorem eqv_q (x y : Fr) : PyData.eqv (dQ x) (dQ y) = decide (x = y) := by
  obtain ⟨a, b⟩ := x
  obtain ⟨c, d⟩ := y
  by_cases h1 : a = c <;> by_cases h2 : b = d <;> simp [dQ, PyData.eqv, PyData.eqvAll, h1, h2]
theorem eqv_h (x y : Hd) : PyData.eqv (dH x) (dH y) = decide (x = y) := by
  obtain ⟨a, b, c⟩ := x
  obtain ⟨a', b', c'⟩ := y
  by_cases h1 : a = a' <;> by_cases h2 : b = b' <;> by_cases h3 : c = c' <;> simp [dH, PyData.eqv, PyData.eqvAll, eqv_q, h1, h2, h3]
theorem eqv_r (x y : Int × Hd) : PyData.eqv (dR x) (dR y) = decide (x = y) := by
  obtain ⟨a, b⟩ := x
  obtain ⟨a', b'⟩ := y
  by_cases h1 : a = a' <;> by_cases h2 : b = b' <;> simp [dR, PyData.eqv, PyData.eqvAll, eqv_h, h1, h2]
theorem eqvAll_map {α : Type} [DecidableEq α] {d : α → PyData} (h : ∀ x y, PyData.eqv (d x) (d y) = decide (x = y)) : ∀ xs ys : List α, PyData.eqvAll (xs.map d) (ys.map d) = decide (xs = ys)
  | [], [] => by simp [PyData.eqvAll]
  | [], y :: ys => by simp [PyData.eqvAll]
  | x :: xs, [] => by simp [PyData.eqvAll]
  | x :: xs, y :: ys => by
    rw [List.map_cons, List.map_cons, PyData.eqvAll, h, eqvAll_map h xs ys]
    by_cases h1 : x = y <;> by_cases h2 : xs = ys <;> simp [h1, h2]
theorem eqv_int (x y : Int) : PyData.eqv (.int x) (.int y) = decide (x = y) := by
  by_cases h : x = y <;> simp [PyData.eqv, h]
theorem eqv_p (x y : Pm) : PyData.eqv (dP x) (dP y) = decide (x = y) := by
  obtain ⟨a, b, c, d⟩ := x
  obtain ⟨a', b', c', d'⟩ := y
  by_cases h1 : a = a' <;> by_cases h2 : b = b' <;> by_cases h3 : c = c' <;> by_cases h4 : d = d' <;> simp [dP, PyData.eqv, PyData.eqvAll, eqv_h, eqvAll_map eqv_h, eqvAll_map eqv_r, h1, h2, h3, h4]
theorem lay_map {α : Type} {d : α → PyData} (h : ∀ x, (d x).canLay0 = true) : ∀ xs : List α, PyData.canLayAll0 (xs.map d) = true
  | [] => rfl
  | x :: xs => by rw [List.map_cons, PyData.canLayAll0, h x, lay_map h xs]; rfl
theorem dep_map {α : Type} {d : α → PyData} {n : Nat} (h : ∀ x, (d x).depth ≤ n) : ∀ xs : List α, PyData.depthAll (xs.map d) ≤ n
  | [] => Nat.zero_le _
  | x :: xs => by
    rw [List.map_cons, PyData.depthAll]
    have a := h x
    have b := dep_map h xs
    omega
theorem lay_h (h : Hd) : (dH h).canLay0 = true := by simp [dH, dQ, PyData.canLay0, PyData.canLayAll0]
theorem dep_h (h : Hd) : (dH h).depth ≤ 2 := by simp [dH, dQ, PyData.depth, PyData.depthAll]
theorem lay_r (r : Int × Hd) : (dR r).canLay0 = true := by simp [dR, PyData.canLay0, PyData.canLayAll0, lay_h]
theorem dep_r (r : Int × Hd) : (dR r).depth ≤ 3 := by have := dep_h r.2; simp [dR, PyData.depth, PyData.depthAll]; omega
theorem shp_l {α : Type} {d : α → PyData} {n : Nat} (h1 : ∀ x, (d x).canLay0 = true) (h2 : ∀ x, (d x).depth ≤ n) (hn : n ≤ 60) (xs : List α) : SeqAt.shaped (.list (xs.map d)) = true := by
  have := dep_map h2 xs
  unfold SeqAt.shaped
  rw [PyData.canLay0, lay_map h1, PyData.depth]
  simp
  omega
theorem shp_h (h : Hd) : SeqAt.shaped (dH h) = true := by
  have := dep_h h
  unfold SeqAt.shaped
  rw [lay_h]
  simp
  omega
theorem names_ok {n : Str} (h : n ∈ (["a", "bb", "proc", "b"] : List Str)) : PyData.strOk n = true := by
  simp only [List.mem_cons, List.not_mem_nil, or_false] at h
  rcases h with rfl | rfl | rfl | rfl <;> decide +kernel
theorem shp_tail (i : List Hd) (r : List (Int × Hd)) (o : Hd) : SeqAt.shaped (.tuple [.tuple (i.map dH), .tuple (r.map dR), dH o]) = true := by
  have a := dep_map dep_h i
  have b := dep_map dep_r r
  have c := dep_h o
  unfold SeqAt.shaped
  simp [PyData.canLay0, PyData.canLayAll0, lay_map lay_h, lay_map lay_r, lay_h, PyData.depth, PyData.depthAll]
  omega
theorem shp_p {p : Pm} (h : POk p) : SeqAt.shaped (dP p) = true := by
  have a := dep_map dep_h p.ins
  have b := dep_map dep_r p.rows
  have c := dep_h p.out
  unfold SeqAt.shaped
  simp [dP, PyData.canLay0, PyData.canLayAll0, names_ok h.nm, lay_map lay_h, lay_map lay_r, lay_h, PyData.depth, PyData.depthAll]
  omega
/-- == and != of data -/
theorem eq_dat {x y : PV} {d e : PyData} {neg : Bool} {S : Sto} (h1 : toDS x S = some d) (h2 : toDS y S = some e) (h3 : SeqAt.shaped d = true) (h4 : SeqAt.shaped e = true) : fEq neg x y S = .ok (.bl (if neg = true then !PyData.eqv d e else PyData.eqv d e)) S := by
  unfold fEq
  rw [h1, h2]
  simp [h3, h4]
def heads (rs : List (Int × Hd)) : List Int := rs.map fun r => r.1
theorem e_heads {di : EnP → Sto → Res (List PV)} {ρ : EnP} {rs : List (Int × Hd)} {S : Sto} (hi : di ρ S = .ok (rs.map eR) S) (hρ : ∃ a b r, ρ = a :: b :: none :: r) (hl : rs.length ≤ lim) : dLc false di (cNm 2) (dYes) (dBin fIx (dV 2) (dC (.int 0))) [2] ρ S = .ok (.nl (rs.map fun r => .int r.1)) S := by
  obtain ⟨a, b, r, rfl⟩ := hρ
  refine dLc_map (α := Int × Hd) eR (fun r => PV.int r.1) (fun _ => True) hi (fun x _ => ⟨_, rfl, fun S => ?_⟩) (fun _ _ => trivial) hl
  rfl
theorem eq_heads {neg : Bool} {xs ys : List (Int × Hd)} {S : Sto} : fEq neg (.nl (xs.map fun r => .int r.1)) (.nl (ys.map fun r => .int r.1)) S = .ok (.bl (if neg = true then !decide (heads xs = heads ys) else decide (heads xs = heads ys))) S := by
  have t : ∀ zs : List (Int × Hd), toDS (.nl (zs.map fun r => .int r.1)) S = some (.list ((heads zs).map PyData.int)) := fun zs => by
    show toD _ = _
    rw [toD, toDL_map (d := fun r : Int × Hd => PyData.int r.1) (fun r => rfl)]
    unfold heads
    rw [List.map_map]
    rfl
  have s : ∀ zs : List Int, SeqAt.shaped (.list (zs.map PyData.int)) = true := fun zs => shp_l (n := 0) (fun _ => rfl) (fun _ => Nat.le_refl _) (by decide) zs
  rw [eq_dat (t xs) (t ys) (s _) (s _)]
  have q : PyData.eqv (.list ((heads xs).map PyData.int)) (.list ((heads ys).map PyData.int)) = decide (heads xs = heads ys) := by
    rw [PyData.eqv]
    exact eqvAll_map eqv_int _ _
  rw [q]
end G73
end
section
set_option Elab.async false
set_option linter.all false
set_option maxRecDepth 100000
set_option maxHeartbeats 4000000
namespace G73
open PySem PySem.Spec PyProof.Rows L2 Mi

/-! ### backing -/
theorem lc_zip {α β : Type} {e1 : α → PV} {e2 : β → PV} {di : EnP → Sto → Res (List PV)} {i j : Nat} {de : EnP → Sto → Res PV} {ρ : EnP} {xs : List α} {ys : List β} {S : Sto} (g : α × β → PV) (P : α × β → Prop) (hi : di ρ S = .ok (zipP (xs.map e1) (ys.map e2)) S)
    (h : ∀ x y, P (x, y) → ∀ S, de (((wipeP ρ [i, j]).set i (some (e1 x))).set j (some (e2 y))) S = .ok (g (x, y)) S) (hP : ∀ z ∈ xs.zip ys, P z) (hl : xs.length ≤ lim) :
    dLc false di (cTup 2 (cCons (cNm i) (cCons (cNm j) cNil))) (dYes) de [i, j] ρ S = .ok (.nl ((xs.zip ys).map g)) S := by
  rw [zip_map] at hi
  refine dLc_map (fun p : α × β => PV.tup [e1 p.1, e2 p.2]) g P hi (fun z hz => ⟨_, rfl, fun S => h z.1 z.2 hz S⟩) hP ?_
  rw [List.length_zip]
  omega
theorem zip_mem {α β : Type} {P : α → Prop} {Q : β → Prop} {xs : List α} {ys : List β} (h1 : ∀ x ∈ xs, P x) (h2 : ∀ y ∈ ys, Q y) : ∀ z ∈ xs.zip ys, P z.1 ∧ Q z.2 := fun z hz => by
  obtain ⟨a, b⟩ := z
  exact ⟨h1 _ (List.of_mem_zip hz).1, h2 _ (List.of_mem_zip hz).2⟩
def al (p q : Pm) : Bool := decide (p.ins.length = q.ins.length) && decide (heads p.rows = heads q.rows)
def covI (e w : Pm) : Bool := (e.ins.zip w.ins).all fun z => cov z.1 z.2
def covR (e w : Pm) : Bool := (e.rows.zip w.rows).all fun z => cov z.1.2 z.2.2
def bk (e w : Pm) : Bool := al e w && (covI e w && (covR e w && cov w.out e.out))
theorem lim6 {n : Nat} (h : n ≤ 6) : n ≤ lim := by unfold lim; omega
theorem lim3 {n : Nat} (h : n ≤ 3) : n ≤ lim := by unfold lim; omega
theorem nat_beq (a b : Nat) : (((a : Nat) : Int) == ((b : Nat) : Int)) = decide (a = b) := by
  by_cases h : a = b
  · simp [h]
  · have : ¬ ((a : Int) = (b : Int)) := by omega
    simp [h, this]
theorem e_backs0 {e w : Pm} {S : Sto} (he : POk e) (hw : POk w) : F_raw_backs [eP e, eP w] S = .ok (.bl (bk e w)) S := by
  have h1 := e_heads (di := iSeq (dBin fIx (dV 0) (dC (.int 2)))) (ρ := [some (eP e), some (eP w), none, none, none]) (rs := e.rows) (S := S) rfl ⟨_, _, _, rfl⟩ (lim3 he.rl)
  have h2 := e_heads (di := iSeq (dBin fIx (dV 1) (dC (.int 2)))) (ρ := [some (eP e), some (eP w), none, none, none]) (rs := w.rows) (S := S) rfl ⟨_, _, _, rfl⟩ (lim3 hw.rl)
  have h3 := lc_zip (e1 := eH) (e2 := eH) (di := iZip2 (dCons (dBin fIx (dV 0) (dC (.int 1))) (dCons (dBin fIx (dV 1) (dC (.int 1))) (dNil)))) (i := 3) (j := 4) (de := dCB F_raw_covers (dCons (dV 3) (dCons (dV 4) (dNil)))) (ρ := [some (eP e), some (eP w), none, none, none]) (xs := e.ins) (ys := w.ins) (S := S)
    (fun z => .bl (cov z.1 z.2)) (fun z => HOk z.1 ∧ HOk z.2) rfl (fun x y h S => by show F_raw_covers [eH x, eH y] S = _; exact e_covers h.1 h.2) (zip_mem he.ins hw.ins) (lim6 he.il)
  have h4 := lc_zip (e1 := eR) (e2 := eR) (di := iZip2 (dCons (dBin fIx (dV 0) (dC (.int 2))) (dCons (dBin fIx (dV 1) (dC (.int 2))) (dNil)))) (i := 3) (j := 4) (de := dCB F_raw_covers (dCons (dBin fIx (dV 3) (dC (.int 1))) (dCons (dBin fIx (dV 4) (dC (.int 1))) (dNil)))) (ρ := [some (eP e), some (eP w), none, none, none]) (xs := e.rows) (ys := w.rows) (S := S)
    (fun z => .bl (cov z.1.2 z.2.2)) (fun z => ROk z.1 ∧ ROk z.2) rfl (fun x y h S => by show F_raw_covers [eH x.2, eH y.2] S = _; exact e_covers h.1.h h.2.h) (zip_mem he.rows hw.rows) (lim3 he.rl)
  have a1 := all_map (fun z : Hd × Hd => cov z.1 z.2) (e.ins.zip w.ins) S
  have a2 := all_map (fun z : (Int × Hd) × (Int × Hd) => cov z.1.2 z.2.2) (e.rows.zip w.rows) S
  have e1 : ∀ neg, fEq neg (.nl (e.rows.map fun r => .int r.1)) (.nl (w.rows.map fun r => .int r.1)) S = .ok (.bl (if neg = true then !decide (heads e.rows = heads w.rows) else decide (heads e.rows = heads w.rows))) S := fun neg => eq_heads
  by_cases c1 : e.ins.length = w.ins.length <;> by_cases c2 : heads e.rows = heads w.rows <;> cases c3 : covI e w <;> cases c4 : covR e w <;> unfold covI at c3 <;> unfold covR at c4 <;> rw [c3] at a1 <;> rw [c4] at a2 <;>
    simp [F_raw_backs, d_raw_backs, runF, startP, endOf, dRet, dRetN, dIf, dIfS, dB, dBin, dUn, dV, dC, sE, asB, dSeq, dSet, dPar, dPar3, dAsg, dExpr, dAnd, dOr, dNot, bAnd, bOr, bNot, dTru, dCB, dCons, dNil, dTup, dLst, dChain, dPass, fCmpI, fIsN, gTp, gsCons, gsNil, gNm, mkTup, dSl, dPart, dNoPart, lim, iLt, iLe, iGt, iGe, ix_p1, ix_p2, ix_p3, len_tup, eq_int, nat_beq, h1, h2, h3, h4, a1, a2, e1, truP, e_covers hw.out he.out, bk, al, covI, covR, c1, c2, c3, c4]
theorem e_backs {e w : Pm} {S : Sto} (he : POk e) (hw : POk w) : F_backs [eP e, eP w] S = .ok (.bl (bk e w)) S := by
  simp [F_backs, d_backs, runF, startP, endOf, dRet, dRetN, dIf, dIfS, dB, dBin, dUn, dV, dC, sE, asB, dSeq, dSet, dPar, dPar3, dAsg, dExpr, dAnd, dOr, dNot, bAnd, bOr, bNot, dTru, dCB, dCons, dNil, dTup, dLst, dChain, dPass, fCmpI, fIsN, gTp, gsCons, gsNil, gNm, mkTup, dSl, dPart, dNoPart, lim, iLt, iLe, iGt, iGe, e_check he, e_check hw, e_backs0 he hw]
theorem e_alike {p q : Pm} {S : Sto} (hp : POk p) (hq : POk q) : F_are_alike [eP p, eP q] S = .ok (.bl (al p q)) S := by
  have h1 := e_heads (di := iSeq (dBin fIx (dV 0) (dC (.int 2)))) (ρ := [some (eP p), some (eP q), none]) (rs := p.rows) (S := S) rfl ⟨_, _, _, rfl⟩ (lim3 hp.rl)
  have h2 := e_heads (di := iSeq (dBin fIx (dV 1) (dC (.int 2)))) (ρ := [some (eP p), some (eP q), none]) (rs := q.rows) (S := S) rfl ⟨_, _, _, rfl⟩ (lim3 hq.rl)
  have e1 : ∀ neg, fEq neg (.nl (p.rows.map fun r => .int r.1)) (.nl (q.rows.map fun r => .int r.1)) S = .ok (.bl (if neg = true then !decide (heads p.rows = heads q.rows) else decide (heads p.rows = heads q.rows))) S := fun neg => eq_heads
  by_cases c1 : p.ins.length = q.ins.length <;> simp [F_are_alike, d_are_alike, runF, startP, endOf, dRet, dRetN, dIf, dIfS, dB, dBin, dUn, dV, dC, sE, asB, dSeq, dSet, dPar, dPar3, dAsg, dExpr, dAnd, dOr, dNot, bAnd, bOr, bNot, dTru, dCB, dCons, dNil, dTup, dLst, dChain, dPass, fCmpI, fIsN, gTp, gsCons, gsNil, gNm, mkTup, dSl, dPart, dNoPart, lim, iLt, iLe, iGt, iGe, ix_p1, ix_p2, len_tup, eq_int, nat_beq, h1, h2, e1, al, c1]
theorem e_both {p q : Pm} {S : Sto} (hp : POk p) (hq : POk q) : F_check_both [eP p, eP q] S = .ok .non S := by
  simp [F_check_both, d_check_both, runF, startP, endOf, dRet, dRetN, dIf, dIfS, dB, dBin, dUn, dV, dC, sE, asB, dSeq, dSet, dPar, dPar3, dAsg, dExpr, dAnd, dOr, dNot, bAnd, bOr, bNot, dTru, dCB, dCons, dNil, dTup, dLst, dChain, dPass, fCmpI, fIsN, gTp, gsCons, gsNil, gNm, mkTup, dSl, dPart, dNoPart, lim, iLt, iLe, iGt, iGe, e_check hp, e_check hq]
theorem e_chk {p q : Pm} {S : Sto} (hp : POk p) (hq : POk q) (h : al p q = true) : F_check_alike [eP p, eP q] S = .ok .non S := by
  simp [F_check_alike, d_check_alike, runF, startP, endOf, dRet, dRetN, dIf, dIfS, dB, dBin, dUn, dV, dC, sE, asB, dSeq, dSet, dPar, dPar3, dAsg, dExpr, dAnd, dOr, dNot, bAnd, bOr, bNot, dTru, dCB, dCons, dNil, dTup, dLst, dChain, dPass, fCmpI, fIsN, gTp, gsCons, gsNil, gNm, mkTup, dSl, dPart, dNoPart, lim, iLt, iLe, iGt, iGe, e_both hp hq, e_alike hp hq, h, truP]
theorem e_chk_no {p q : Pm} {S : Sto} (hp : POk p) (hq : POk q) (h : al p q = false) : F_check_alike [eP p, eP q] S = .exc "Unlike" [] S := by
  simp [F_check_alike, d_check_alike, runF, startP, endOf, dRet, dRetN, dIf, dIfS, dB, dBin, dUn, dV, dC, sE, asB, dSeq, dSet, dPar, dPar3, dAsg, dExpr, dAnd, dOr, dNot, bAnd, bOr, bNot, dTru, dCB, dCons, dNil, dTup, dLst, dChain, dPass, fCmpI, fIsN, gTp, gsCons, gsNil, gNm, mkTup, dSl, dPart, dNoPart, lim, iLt, iLe, iGt, iGe, e_both hp hq, e_alike hp hq, h, truP, dRaise]
/-! the two answers -/
def jnR (a b : Int × Hd) : Int × Hd := (a.1, jn a.2 b.2)
def jI (p q : Pm) : List Hd := (p.ins.zip q.ins).map fun z => jn z.1 z.2
def jRs (p q : Pm) : List (Int × Hd) := (p.rows.zip q.rows).map fun z => jnR z.1 z.2
def bb (p q : Pm) : Option Pm := match mt p.out q.out with
  | none => none
  | some o => some ⟨p.nm, jI p q, jRs p q, o⟩
def eOP : Option Pm → PV
  | none => .non
  | some p => eP p
theorem jI_map (p q : Pm) : ((p.ins.zip q.ins).map fun z => eH (jn z.1 z.2)) = (jI p q).map eH := by unfold jI; rw [List.map_map]; rfl
theorem jRs_map (p q : Pm) : ((p.rows.zip q.rows).map fun z => eR (jnR z.1 z.2)) = (jRs p q).map eR := by unfold jRs; rw [List.map_map]; rfl
theorem fold_p (n : Str) (i : List Hd) (r : List (Int × Hd)) (o : Hd) : PV.tup [.str n, .tup (i.map eH), .tup (r.map eR), eH o] = eP ⟨n, i, r, o⟩ := rfl
theorem e_backing {p q : Pm} {S : Sto} (hp : POk p) (hq : POk q) (h : al p q = true) : F_backing_both [eP p, eP q] S = .ok (eOP (bb p q)) S := by
  have h3 := lc_zip (e1 := eH) (e2 := eH) (di := iZip2 (dCons (dBin fIx (dV 0) (dC (.int 1))) (dCons (dBin fIx (dV 1) (dC (.int 1))) (dNil)))) (i := 3) (j := 4) (de := dCB F_raw_joined (dCons (dV 3) (dCons (dV 4) (dNil)))) (ρ := [some (eP p), some (eP q), none, none, none, none, none]) (xs := p.ins) (ys := q.ins) (S := S)
    (fun z => eH (jn z.1 z.2)) (fun z => HOk z.1 ∧ HOk z.2) rfl (fun x y h S => by show F_raw_joined [eH x, eH y] S = _; exact e_joined0 h.1 h.2) (zip_mem hp.ins hq.ins) (lim6 hp.il)
  have h4 := fun (v : Option PV) => lc_zip (e1 := eR) (e2 := eR) (di := iZip2 (dCons (dBin fIx (dV 0) (dC (.int 2))) (dCons (dBin fIx (dV 1) (dC (.int 2))) (dNil)))) (i := 3) (j := 4) (de := dTup (dCons (dBin fIx (dV 3) (dC (.int 0))) (dCons (dCB F_raw_joined (dCons (dBin fIx (dV 3) (dC (.int 1))) (dCons (dBin fIx (dV 4) (dC (.int 1))) (dNil)))) (dNil)))) (ρ := [some (eP p), some (eP q), v, none, none, none, none]) (xs := p.rows) (ys := q.rows) (S := S)
    (fun z => eR (jnR z.1 z.2)) (fun z => ROk z.1 ∧ ROk z.2) rfl (fun x y h S => by
      have z := e_joined0 (S := S) h.1.h h.2.h
      show ((((F_raw_joined [eH x.2, eH y.2] S).bind fun b S2 => Res.ok [b] S2).bind (fun r S2 => Res.ok (PV.int x.1 :: r) S2)).bind (fun xs S1 => mkTup xs S1)) = _
      rw [z]
      rfl) (zip_mem hp.rows hq.rows) (lim3 hp.rl)
  rw [jI_map] at h3
  simp only [jRs_map] at h4
  have l1 : ((jI p q).map eH).length ≤ lim := by simp [lim, jI]; have := hp.il; omega
  have l2 : ((jRs p q).map eR).length ≤ lim := by simp [lim, jRs]; have := hp.rl; omega
  have t1 := tuple_nl (S := S) l1
  have t2 := tuple_nl (S := S) l2
  cases c : mt p.out q.out <;> simp [F_backing_both, d_backing_both, runF, startP, endOf, dRet, dRetN, dIf, dIfS, dB, dBin, dUn, dV, dC, sE, asB, dSeq, dSet, dPar, dPar3, dAsg, dExpr, dAnd, dOr, dNot, bAnd, bOr, bNot, dTru, dCB, dCons, dNil, dTup, dLst, dChain, dPass, fCmpI, fIsN, gTp, gsCons, gsNil, gNm, mkTup, dSl, dPart, dNoPart, lim, iLt, iLe, iGt, iGe, e_chk hp hq h, h3, h4, t1, t2, ix_p0, ix_p3, e_met hp.out hq.out, bb, c, eO, eOP, fold_p]
/-! None among holds -/
def mI (p q : Pm) : List (Option Hd) := (p.ins.zip q.ins).map fun z => mt z.1 z.2
def mR (p q : Pm) : List (Option Hd) := (p.rows.zip q.rows).map fun z => mt z.1.2 z.2.2
def dO : Option Hd → PyData
  | none => .none
  | some h => dH h
theorem toD_o (o : Option Hd) : toD (eO o) = some (dO o) := by cases o <;> rfl
theorem lay_o (o : Option Hd) : (dO o).canLay0 = true := by cases o; rfl; exact lay_h _
theorem dep_o (o : Option Hd) : (dO o).depth ≤ 2 := by cases o; decide; exact dep_h _
theorem eqv_on (o : Option Hd) : PyData.eqv (dO o) .none = o.isNone := by cases o <;> simp [dO, dH, PyData.eqv]
theorem in_none {os : List (Option Hd)} {x : PV} {S : Sto} (h : toDS x S = some (.list (os.map dO))) : fInD false .non x S = .ok (.bl (os.any Option.isNone)) S := by
  unfold fInD
  have e : toDS PV.non S = some PyData.none := rfl
  rw [e, h]
  have s1 : SeqAt.shaped PyData.none = true := by decide
  have s2 := shp_l lay_o dep_o (by decide) os
  simp only [s1, s2, and_self, if_true, Bool.false_eq_true, if_false]
  congr 2
  rw [List.any_map]
  congr 1
  funext o
  exact eqv_on o
def got {α : Type} : List (Option α) → List α
  | [] => []
  | some x :: r => x :: got r
  | none :: r => got r
theorem got_map {α : Type} {e : α → PV} {eo : Option α → PV} (h : ∀ x, eo (some x) = e x) : ∀ os : List (Option α), (os.any Option.isNone) = false → os.map eo = (got os).map e
  | [], _ => rfl
  | some x :: r, q => by
    simp at q
    rw [List.map_cons, h, got, List.map_cons, got_map h r (by simpa using q)]
  | none :: r, q => by simp at q
def fixR : List (Int × Hd) → List (Option Hd) → List (Int × Hd)
  | r :: rs, some h :: os => (r.1, h) :: fixR rs os
  | _, _ => []
theorem fixR_map : ∀ (rs : List (Int × Hd)) (os : List (Option Hd)), (os.any Option.isNone) = false → ((rs.zip os).map fun z => PV.tup [.int z.1.1, eO z.2]) = (fixR rs os).map eR
  | [], os, _ => by cases os <;> rfl
  | r :: rs, [], _ => rfl
  | r :: rs, none :: os, q => by simp at q
  | r :: rs, some h :: os, q => by
    rw [List.zip_cons_cons, List.map_cons, fixR, List.map_cons, fixR_map rs os (by simpa using q)]
    rfl
def bd (p q : Pm) : Option Pm := if (mI p q).any Option.isNone || (mR p q).any Option.isNone then none else some ⟨p.nm, got (mI p q), fixR p.rows (mR p q), jn p.out q.out⟩
theorem e_backed {p q : Pm} {S : Sto} (hp : POk p) (hq : POk q) (h : al p q = true) : F_backed_by_both [eP p, eP q] S = .ok (eOP (bd p q)) S := by
  have h3 := lc_zip (e1 := eH) (e2 := eH) (di := iZip2 (dCons (dBin fIx (dV 0) (dC (.int 1))) (dCons (dBin fIx (dV 1) (dC (.int 1))) (dNil)))) (i := 3) (j := 4) (de := dCB F_met_holds (dCons (dV 3) (dCons (dV 4) (dNil)))) (ρ := [some (eP p), some (eP q), none, none, none, none, none, none, none]) (xs := p.ins) (ys := q.ins) (S := S)
    (fun z => eO (mt z.1 z.2)) (fun z => HOk z.1 ∧ HOk z.2) rfl (fun x y h S => by show F_met_holds [eH x, eH y] S = _; exact e_met h.1 h.2) (zip_mem hp.ins hq.ins) (lim6 hp.il)
  have h4 := fun (v : Option PV) => lc_zip (e1 := eR) (e2 := eR) (di := iZip2 (dCons (dBin fIx (dV 0) (dC (.int 2))) (dCons (dBin fIx (dV 1) (dC (.int 2))) (dNil)))) (i := 3) (j := 4) (de := dCB F_met_holds (dCons (dBin fIx (dV 3) (dC (.int 1))) (dCons (dBin fIx (dV 4) (dC (.int 1))) (dNil)))) (ρ := [some (eP p), some (eP q), v, none, none, none, none, none, none]) (xs := p.rows) (ys := q.rows) (S := S)
    (fun z => eO (mt z.1.2 z.2.2)) (fun z => ROk z.1 ∧ ROk z.2) rfl (fun x y h S => by show F_met_holds [eH x.2, eH y.2] S = _; exact e_met h.1.h h.2.h) (zip_mem hp.rows hq.rows) (lim3 hp.rl)
  have m3 : ((p.ins.zip q.ins).map fun z => eO (mt z.1 z.2)) = (mI p q).map eO := by unfold mI; rw [List.map_map]; rfl
  have m4 : ((p.rows.zip q.rows).map fun z => eO (mt z.1.2 z.2.2)) = (mR p q).map eO := by unfold mR; rw [List.map_map]; rfl
  rw [m3] at h3
  simp only [m4] at h4
  have tl : ∀ os : List (Option Hd), toDS (.nl (os.map eO)) S = some (.list (os.map dO)) := fun os => by
    show toD _ = _
    rw [toD, toDL_map toD_o]
    rfl
  have n1 := in_none (tl (mI p q))
  have n2 := in_none (tl (mR p q))
  have li : ((mI p q).map eO).length ≤ lim := by simp [lim, mI]; have := hp.il; omega
  have lr : (mR p q).length ≤ lim := by simp [lim, mR]; have := hp.rl; omega
  have h5 := fun (a b : Option PV) => lc_zip (e1 := eR) (e2 := eO) (di := iZip2 (dCons (dBin fIx (dV 0) (dC (.int 2))) (dCons (dV 5) (dNil)))) (i := 7) (j := 8) (de := dTup (dCons (dBin fIx (dV 7) (dC (.int 0))) (dCons (dV 8) (dNil)))) (ρ := [some (eP p), b, a, none, none, some (.nl ((mR p q).map eO)), none, none, none]) (xs := p.rows) (ys := mR p q) (S := S)
    (fun z => PV.tup [.int z.1.1, eO z.2]) (fun _ => True) rfl (fun x y h S => by rfl) (fun _ _ => trivial) (lim3 hp.rl)
  cases c1 : (mI p q).any Option.isNone <;> cases c2 : (mR p q).any Option.isNone
  · have t1 := tuple_nl (S := S) li
    rw [got_map (e := eH) (fun _ => rfl) _ c1] at t1
    have f5 := fixR_map p.rows (mR p q) c2
    simp only [f5] at h5
    have t2 := tuple_nl (S := S) (xs := (fixR p.rows (mR p q)).map eR) (by rw [← f5]; simp [lim]; have := hp.rl; omega)
    have g1 := got_map (e := eH) (eo := eO) (fun _ => rfl) _ c1
    rw [g1] at h3 n1
    rw [c1] at n1
    rw [c2] at n2
    simp [F_backed_by_both, d_backed_by_both, runF, startP, endOf, dRet, dRetN, dIf, dIfS, dB, dBin, dUn, dV, dC, sE, asB, dSeq, dSet, dPar, dPar3, dAsg, dExpr, dAnd, dOr, dNot, bAnd, bOr, bNot, dTru, dCB, dCons, dNil, dTup, dLst, dChain, dPass, fCmpI, fIsN, gTp, gsCons, gsNil, gNm, mkTup, dSl, dPart, dNoPart, lim, iLt, iLe, iGt, iGe, e_chk hp hq h, h3, h4, h5, n1, n2, t1, t2, ix_p0, ix_p3, e_joined0 hp.out hq.out, bd, c1, c2, eOP, fold_p]
  · rw [c1] at n1
    rw [c2] at n2
    simp [F_backed_by_both, d_backed_by_both, runF, startP, endOf, dRet, dRetN, dIf, dIfS, dB, dBin, dUn, dV, dC, sE, asB, dSeq, dSet, dPar, dPar3, dAsg, dExpr, dAnd, dOr, dNot, bAnd, bOr, bNot, dTru, dCB, dCons, dNil, dTup, dLst, dChain, dPass, fCmpI, fIsN, gTp, gsCons, gsNil, gNm, mkTup, dSl, dPart, dNoPart, lim, iLt, iLe, iGt, iGe, e_chk hp hq h, h3, h4, n1, n2, bd, c1, c2, eOP]
  · rw [c1] at n1
    simp [F_backed_by_both, d_backed_by_both, runF, startP, endOf, dRet, dRetN, dIf, dIfS, dB, dBin, dUn, dV, dC, sE, asB, dSeq, dSet, dPar, dPar3, dAsg, dExpr, dAnd, dOr, dNot, bAnd, bOr, bNot, dTru, dCB, dCons, dNil, dTup, dLst, dChain, dPass, fCmpI, fIsN, gTp, gsCons, gsNil, gNm, mkTup, dSl, dPart, dNoPart, lim, iLt, iLe, iGt, iGe, e_chk hp hq h, h3, h4, n1, bd, c1, eOP]
  · rw [c1] at n1
    simp [F_backed_by_both, d_backed_by_both, runF, startP, endOf, dRet, dRetN, dIf, dIfS, dB, dBin, dUn, dV, dC, sE, asB, dSeq, dSet, dPar, dPar3, dAsg, dExpr, dAnd, dOr, dNot, bAnd, bOr, bNot, dTru, dCB, dCons, dNil, dTup, dLst, dChain, dPass, fCmpI, fIsN, gTp, gsCons, gsNil, gNm, mkTup, dSl, dPart, dNoPart, lim, iLt, iLe, iGt, iGe, e_chk hp hq h, h3, h4, n1, bd, c1, eOP]
end G73
end
section
set_option Elab.async false
set_option linter.all false
set_option maxRecDepth 100000
set_option maxHeartbeats 1000000
namespace G73
open PySem PySem.Spec PyProof.Rows L2 Mi

/-! ### the law's own both -/
def pick (b : Bool) (x y : Hd) : Option Hd := if b = true then some (jn x y) else mt x y
def oI (b : Bool) (p q : Pm) : List (Option Hd) := (p.ins.zip q.ins).map fun z => pick b z.1 z.2
def oR (b : Bool) (p q : Pm) : List (Option Hd) := (p.rows.zip q.rows).map fun z => pick b z.1.2 z.2.2
def eOR (r : Int × Hd) (o : Option Hd) : PV := match o with
  | none => .non
  | some h => eR (r.1, h)
theorem get_at {S0 : Sto} {a b : SO} : (S0 ++ [a, b])[S0.length]? = some a := by simp
theorem get_at1 {S0 : Sto} {a b : SO} : (S0 ++ [a, b])[S0.length + 1]? = some b := by simp
theorem set_at {S0 : Sto} {a b c : SO} : (S0 ++ [a, b]).set S0.length c = S0 ++ [c, b] := by simp
theorem set_at1 {S0 : Sto} {a b c : SO} : (S0 ++ [a, b]).set (S0.length + 1) c = S0 ++ [a, c] := by
  rw [List.set_append_right _ _ (by omega)]
  simp
theorem app0 {S0 : Sto} {l1 l2 : List PV} {y : PV} (h : l1.length < lim) : fApp S0.length y (S0 ++ [SO.lst l1, SO.lst l2]) = .ok .non (S0 ++ [SO.lst (l1 ++ [y]), SO.lst l2]) := by
  unfold fApp
  rw [get_at]
  simp only [if_pos h, set_at]
theorem app1 {S0 : Sto} {l1 l2 : List PV} {y : PV} (h : l2.length < lim) : fApp (S0.length + 1) y (S0 ++ [SO.lst l1, SO.lst l2]) = .ok .non (S0 ++ [SO.lst l1, SO.lst (l2 ++ [y])]) := by
  unfold fApp
  rw [get_at1]
  simp only [if_pos h, set_at1]
theorem loop1 {p q : PV} {b : Bool} {S0 : Sto} : ∀ (zs : List (Hd × Hd)) (l1 l2 : List PV) (v5 v6 v7 v8 : Option PV), (∀ z ∈ zs, HOk z.1 ∧ HOk z.2) → l1.length + zs.length ≤ 1000 →
    ∃ w5 w6, forP (gTp 2 (gsCons (gNm 5) (gsCons (gNm 6) (gsNil)))) (dExpr (dApp (dV 3) (dCons (dIf (dTru (dV 2)) (dCB F_law_union_L (dCons (dV 5) (dCons (dV 6) (dNil)))) (dCB F_law_common_L (dCons (dV 5) (dCons (dV 6) (dNil))))) (dNil)))) (zs.map fun z => PV.tup [eH z.1, eH z.2])
      [some p, some q, some (.bl b), some (.ref S0.length), some (.ref (S0.length + 1)), v5, v6, v7, v8] (S0 ++ [SO.lst l1, SO.lst l2]) =
      .nx [some p, some q, some (.bl b), some (.ref S0.length), some (.ref (S0.length + 1)), w5, w6, v7, v8] (S0 ++ [SO.lst (l1 ++ zs.map fun z => eO (pick b z.1 z.2)), SO.lst l2])
  | [], l1, l2, v5, v6, v7, v8, _, _ => ⟨v5, v6, by simp [forP]⟩
  | z :: zs, l1, l2, v5, v6, v7, v8, hz, hl => by
    obtain ⟨h1, h2⟩ := hz z List.mem_cons_self
    rw [List.length_cons] at hl
    obtain ⟨w5, w6, ih⟩ := loop1 zs (l1 ++ [eO (pick b z.1 z.2)]) l2 (some (eH z.1)) (some (eH z.2)) v7 v8 (fun y hy => hz y (List.mem_cons_of_mem _ hy)) (by simp; omega)
    refine ⟨w5, w6, ?_⟩
    have hlt : l1.length < 16777216 := by omega
    have e : dExpr (dApp (dV 3) (dCons (dIf (dTru (dV 2)) (dCB F_law_union_L (dCons (dV 5) (dCons (dV 6) (dNil)))) (dCB F_law_common_L (dCons (dV 5) (dCons (dV 6) (dNil))))) (dNil))) [some p, some q, some (.bl b), some (.ref S0.length), some (.ref (S0.length + 1)), some (eH z.1), some (eH z.2), v7, v8] (S0 ++ [SO.lst l1, SO.lst l2]) =
        .nx [some p, some q, some (.bl b), some (.ref S0.length), some (.ref (S0.length + 1)), some (eH z.1), some (eH z.2), v7, v8] (S0 ++ [SO.lst (l1 ++ [eO (pick b z.1 z.2)]), SO.lst l2]) := by
      have hu := fun S => e_union (S := S) h1 h2
      have hc := fun S => e_common (S := S) h1 h2
      cases b <;> simp [runF, startP, endOf, dRet, dRetN, dIf, dIfS, dB, dBin, dUn, dV, dC, sE, asB, dSeq, dSet, dPar, dPar3, dAsg, dExpr, dAnd, dOr, dNot, bAnd, bOr, bNot, dTru, dCB, dCons, dNil, dTup, dLst, dChain, dPass, fCmpI, fIsN, gTp, gsCons, gsNil, gNm, mkTup, dSl, dPart, dNoPart, lim, iLt, iLe, iGt, iGe, dApp, truP, hu, hc, pick, app0, hlt, eO]
    rw [List.map_cons, forP]
    simp only [gTp, gsCons, gsNil, gNm, List.length_cons, List.length_nil, if_true, Res.bind_ok, sE, List.set_cons_succ, List.set_cons_zero]
    rw [e]
    simp only
    rw [ih]
    simp
theorem loop2 {p q : PV} {b : Bool} {S0 : Sto} : ∀ (zs : List ((Int × Hd) × (Int × Hd))) (l1 l2 : List PV) (v5 v6 v7 v8 : Option PV), (∀ z ∈ zs, ROk z.1 ∧ ROk z.2) → l2.length + zs.length ≤ 1000 →
    ∃ w5 w6 w7, forP (gTp 2 (gsCons (gNm 5) (gsCons (gNm 6) (gsNil)))) (dSeq (dSet 7 (dIf (dTru (dV 2)) (dCB F_law_union_L (dCons (dBin fIx (dV 5) (dC (.int 1))) (dCons (dBin fIx (dV 6) (dC (.int 1))) (dNil)))) (dCB F_law_common_L (dCons (dBin fIx (dV 5) (dC (.int 1))) (dCons (dBin fIx (dV 6) (dC (.int 1))) (dNil)))))) (dExpr (dApp (dV 4) (dCons (dIf (dB (dBin (fIsN false) (dV 7) (dC .non))) (dC .non) (dTup (dCons (dBin fIx (dV 5) (dC (.int 0))) (dCons (dV 7) (dNil))))) (dNil))))) (zs.map fun z => PV.tup [eR z.1, eR z.2])
      [some p, some q, some (.bl b), some (.ref S0.length), some (.ref (S0.length + 1)), v5, v6, v7, v8] (S0 ++ [SO.lst l1, SO.lst l2]) =
      .nx [some p, some q, some (.bl b), some (.ref S0.length), some (.ref (S0.length + 1)), w5, w6, w7, v8] (S0 ++ [SO.lst l1, SO.lst (l2 ++ zs.map fun z => eOR z.1 (pick b z.1.2 z.2.2))])
  | [], l1, l2, v5, v6, v7, v8, _, _ => ⟨v5, v6, v7, by simp [forP]⟩
  | z :: zs, l1, l2, v5, v6, v7, v8, hz, hl => by
    obtain ⟨h1, h2⟩ := hz z List.mem_cons_self
    rw [List.length_cons] at hl
    obtain ⟨w5, w6, w7, ih⟩ := loop2 zs l1 (l2 ++ [eOR z.1 (pick b z.1.2 z.2.2)]) (some (eR z.1)) (some (eR z.2)) (some (eO (pick b z.1.2 z.2.2))) v8 (fun y hy => hz y (List.mem_cons_of_mem _ hy)) (by simp; omega)
    refine ⟨w5, w6, w7, ?_⟩
    have hlt : l2.length < 16777216 := by omega
    have e : (dSeq (dSet 7 (dIf (dTru (dV 2)) (dCB F_law_union_L (dCons (dBin fIx (dV 5) (dC (.int 1))) (dCons (dBin fIx (dV 6) (dC (.int 1))) (dNil)))) (dCB F_law_common_L (dCons (dBin fIx (dV 5) (dC (.int 1))) (dCons (dBin fIx (dV 6) (dC (.int 1))) (dNil)))))) (dExpr (dApp (dV 4) (dCons (dIf (dB (dBin (fIsN false) (dV 7) (dC .non))) (dC .non) (dTup (dCons (dBin fIx (dV 5) (dC (.int 0))) (dCons (dV 7) (dNil))))) (dNil))))) [some p, some q, some (.bl b), some (.ref S0.length), some (.ref (S0.length + 1)), some (eR z.1), some (eR z.2), v7, v8] (S0 ++ [SO.lst l1, SO.lst l2]) =
        .nx [some p, some q, some (.bl b), some (.ref S0.length), some (.ref (S0.length + 1)), some (eR z.1), some (eR z.2), some (eO (pick b z.1.2 z.2.2)), v8] (S0 ++ [SO.lst l1, SO.lst (l2 ++ [eOR z.1 (pick b z.1.2 z.2.2)])]) := by
      have hu := fun S => e_union (S := S) h1.h h2.h
      have hc := fun S => e_common (S := S) h1.h h2.h
      have fr : ∀ h : Hd, PV.tup [.int z.1.1, eH h] = eR (z.1.1, h) := fun _ => rfl
      cases b
      · cases c : mt z.1.2 z.2.2 <;> simp [runF, startP, endOf, dRet, dRetN, dIf, dIfS, dB, dBin, dUn, dV, dC, sE, asB, dSeq, dSet, dPar, dPar3, dAsg, dExpr, dAnd, dOr, dNot, bAnd, bOr, bNot, dTru, dCB, dCons, dNil, dTup, dLst, dChain, dPass, fCmpI, fIsN, gTp, gsCons, gsNil, gNm, mkTup, dSl, dPart, dNoPart, lim, iLt, iLe, iGt, iGe, dApp, truP, ix_r0, ix_r1, hc, pick, app1, hlt, eO, eOR, c, fr]
      · simp [runF, startP, endOf, dRet, dRetN, dIf, dIfS, dB, dBin, dUn, dV, dC, sE, asB, dSeq, dSet, dPar, dPar3, dAsg, dExpr, dAnd, dOr, dNot, bAnd, bOr, bNot, dTru, dCB, dCons, dNil, dTup, dLst, dChain, dPass, fCmpI, fIsN, gTp, gsCons, gsNil, gNm, mkTup, dSl, dPart, dNoPart, lim, iLt, iLe, iGt, iGe, dApp, truP, ix_r0, ix_r1, hu, pick, app1, hlt, eO, eOR, fr]
    rw [List.map_cons, forP]
    simp only [gTp, gsCons, gsNil, gNm, List.length_cons, List.length_nil, if_true, Res.bind_ok, sE, List.set_cons_succ, List.set_cons_zero]
    rw [e]
    simp only
    rw [ih]
    simp

theorem eO_n : eO none = .non := rfl
theorem eO_s (h : Hd) : eO (some h) = eH h := rfl
def two (b : Bool) (p q : Pm) : Option Pm := if b = true then bb p q else bd p q
def dOR (r : Int × Hd) (o : Option Hd) : PyData := match o with
  | none => .none
  | some h => dR (r.1, h)
theorem toDL_pick (b : Bool) (zs : List (Hd × Hd)) : toDL (zs.map fun z => eO (pick b z.1 z.2)) = some (zs.map fun z => dO (pick b z.1 z.2)) := by
  induction zs with
  | nil => rfl
  | cons z zs ih => rw [List.map_cons, List.map_cons, toDL, toD_o, ih]
theorem toD_or (r : Int × Hd) (o : Option Hd) : toD (eOR r o) = some (dOR r o) := by cases o <;> rfl
theorem toDL_pickR (b : Bool) (zs : List ((Int × Hd) × (Int × Hd))) : toDL (zs.map fun z => eOR z.1 (pick b z.1.2 z.2.2)) = some (zs.map fun z => dOR z.1 (pick b z.1.2 z.2.2)) := by
  induction zs with
  | nil => rfl
  | cons z zs ih => rw [List.map_cons, List.map_cons, toDL, toD_or, ih]
theorem toDL_zip {α : Type} {e : α → PV} {d : α → PyData} (h : ∀ x, toD (e x) = some (d x)) (xs : List α) : toDL (xs.map e) = some (xs.map d) := toDL_map h xs
theorem in_none' {α : Type} {d : α → PyData} {x : PV} {S : Sto} {os : List α} {n : Nat} (h : toDS x S = some (.list (os.map d))) (h1 : ∀ o, (d o).canLay0 = true) (h2 : ∀ o, (d o).depth ≤ n) (hn : n ≤ 60) (f : α → Bool) (hf : ∀ o, PyData.eqv (d o) .none = f o) : fInD false .non x S = .ok (.bl (os.any f)) S := by
  unfold fInD
  have e : toDS PV.non S = some PyData.none := rfl
  rw [e, h]
  have s1 : SeqAt.shaped PyData.none = true := by decide
  have s2 := shp_l h1 h2 hn os
  simp only [s1, s2, and_self, if_true, Bool.false_eq_true, if_false]
  congr 2
  rw [List.any_map]
  congr 1
  funext o
  exact hf o
theorem toDS_ref {S : Sto} {n : Nat} {xs : List PV} {ds : List PyData} (h : S[n]? = some (SO.lst xs)) (e : toDL xs = some ds) : toDS (.ref n) S = some (.list ds) := by
  show (match S[n]? with | some (SO.lst xs) => (toDL xs).map PyData.list | none => none) = _
  rw [h]
  simp only [e]
  rfl
theorem tuple_ref {S : Sto} {n : Nat} {xs : List PV} (h : S[n]? = some (SO.lst xs)) (hl : xs.length ≤ lim) : fTuple [.ref n] S = .ok (.tup xs) S := by
  show (match lstOf (.ref n) S with | some xs => (if xs.length ≤ lim then Res.ok (PV.tup xs) S else .bad) | none => .bad) = _
  have : lstOf (.ref n) S = some xs := by
    show (match S[n]? with | some (SO.lst xs) => some xs | none => none) = _
    rw [h]
  rw [this]
  simp only [if_pos hl]
theorem oR_map (b : Bool) (p q : Pm) : ((oR b p q).any Option.isNone) = false → ((p.rows.zip q.rows).map fun z => eOR z.1 (pick b z.1.2 z.2.2)) = (fixR p.rows (oR b p q)).map eR := by
  unfold oR
  generalize p.rows = xs
  generalize q.rows = ys
  induction xs generalizing ys with
  | nil => intro _; cases ys <;> rfl
  | cons x xs ih =>
    intro h
    cases ys with
    | nil => rfl
    | cons y ys =>
      simp only [List.zip_cons_cons, List.map_cons, List.any_cons, Bool.or_eq_false_iff] at h ⊢
      cases c : pick b x.2 y.2 with
      | none => rw [c] at h; simp at h
      | some k => rw [fixR, List.map_cons, ih ys h.2]; rfl
theorem pick_true (x y : Hd) : pick true x y = some (jn x y) := rfl
theorem pick_false (x y : Hd) : pick false x y = mt x y := rfl
theorem any_none_true (zs : List (Hd × Hd)) : ((zs.map fun z => pick true z.1 z.2).any Option.isNone) = false := by
  induction zs with
  | nil => rfl
  | cons z zs ih => simp [pick_true]
theorem got_true (zs : List (Hd × Hd)) : got (zs.map fun z => pick true z.1 z.2) = zs.map fun z => jn z.1 z.2 := by
  induction zs with
  | nil => rfl
  | cons z zs ih => rw [List.map_cons, pick_true, got, ih]; rfl
theorem oR_true (p q : Pm) : (oR true p q).any Option.isNone = false ∧ fixR p.rows (oR true p q) = jRs p q := by
  unfold oR jRs
  generalize p.rows = xs
  generalize q.rows = ys
  induction xs generalizing ys with
  | nil => cases ys <;> exact ⟨rfl, rfl⟩
  | cons x xs ih =>
    cases ys with
    | nil => exact ⟨rfl, rfl⟩
    | cons y ys =>
      obtain ⟨h1, h2⟩ := ih ys
      simp only [pick_true] at h1 h2
      refine ⟨?_, ?_⟩
      · simp only [List.zip_cons_cons, List.map_cons, List.any_cons, pick_true, h1]; rfl
      · simp only [List.zip_cons_cons, List.map_cons, pick_true, fixR, h2]; rfl
theorem e_law_both {p q : Pm} (b : Bool) (S : Sto) (hp : POk p) (hq : POk q) : ∃ l1 l2, F_law_both_L [eP p, eP q, .bl b] S = .ok (eOP (two b p q)) (S ++ [SO.lst l1, SO.lst l2]) := by
  obtain ⟨w5, w6, h1⟩ := loop1 (p := eP p) (q := eP q) (b := b) (S0 := S) (p.ins.zip q.ins) [] [] none none none none (zip_mem hp.ins hq.ins) (by simp; have := hp.il; omega)
  obtain ⟨u5, u6, u7, h2⟩ := loop2 (p := eP p) (q := eP q) (b := b) (S0 := S) (p.rows.zip q.rows) ((p.ins.zip q.ins).map fun z => eO (pick b z.1 z.2)) [] w5 w6 none none (zip_mem hp.rows hq.rows) (by simp; have := hp.rl; omega)
  simp only [List.nil_append] at h1 h2
  refine ⟨_, _, (?_ : _ = Res.ok _ (S ++ [SO.lst ((p.ins.zip q.ins).map fun z => eO (pick b z.1 z.2)), SO.lst ((p.rows.zip q.rows).map fun z => eOR z.1 (pick b z.1.2 z.2.2))]))⟩
  generalize hS : S ++ [SO.lst ((p.ins.zip q.ins).map fun z => eO (pick b z.1 z.2)), SO.lst ((p.rows.zip q.rows).map fun z => eOR z.1 (pick b z.1.2 z.2.2))] = S2 at h2
  have g0 : S2[S.length]? = some (SO.lst ((p.ins.zip q.ins).map fun z => eO (pick b z.1 z.2))) := by rw [← hS]; exact get_at
  have g1 : S2[S.length + 1]? = some (SO.lst ((p.rows.zip q.rows).map fun z => eOR z.1 (pick b z.1.2 z.2.2))) := by rw [← hS]; exact get_at1
  have k1 : toDL ((p.ins.zip q.ins).map fun z => eO (pick b z.1 z.2)) = some ((p.ins.zip q.ins).map fun z => dO (pick b z.1 z.2)) := toDL_pick b _
  have q1 : toDS (.ref S.length) S2 = some (.list ((p.ins.zip q.ins).map fun z => dO (pick b z.1 z.2))) := toDS_ref g0 k1
  have n1 : fInD false .non (.ref S.length) S2 = .ok (.bl ((p.ins.zip q.ins).any fun z => (pick b z.1 z.2).isNone)) S2 := in_none' (n := 2) q1 (fun z => lay_o (pick b z.1 z.2)) (fun z => dep_o (pick b z.1 z.2)) (by decide) (fun z => (pick b z.1 z.2).isNone) (fun z => eqv_on (pick b z.1 z.2))
  have l3 : ∀ z : (Int × Hd) × (Int × Hd), (dOR z.1 (pick b z.1.2 z.2.2)).canLay0 = true := fun z => by
    cases pick b z.1.2 z.2.2 with
    | none => rfl
    | some k => exact lay_r _
  have d3 : ∀ z : (Int × Hd) × (Int × Hd), (dOR z.1 (pick b z.1.2 z.2.2)).depth ≤ 3 := fun z => by
    cases pick b z.1.2 z.2.2 with
    | none => exact Nat.zero_le _
    | some k => exact dep_r _
  have f3 : ∀ z : (Int × Hd) × (Int × Hd), PyData.eqv (dOR z.1 (pick b z.1.2 z.2.2)) .none = (pick b z.1.2 z.2.2).isNone := fun z => by
    cases pick b z.1.2 z.2.2 with
    | none => rfl
    | some k => rfl
  have k2 : toDL ((p.rows.zip q.rows).map fun z => eOR z.1 (pick b z.1.2 z.2.2)) = some ((p.rows.zip q.rows).map fun z => dOR z.1 (pick b z.1.2 z.2.2)) := toDL_pickR b _
  have q2 : toDS (.ref (S.length + 1)) S2 = some (.list ((p.rows.zip q.rows).map fun z => dOR z.1 (pick b z.1.2 z.2.2))) := toDS_ref g1 k2
  have n2 : fInD false .non (.ref (S.length + 1)) S2 = .ok (.bl ((p.rows.zip q.rows).any fun z => (pick b z.1.2 z.2.2).isNone)) S2 := in_none' (n := 3) q2 l3 d3 (by decide) (fun z => (pick b z.1.2 z.2.2).isNone) f3
  have a1 : ((p.ins.zip q.ins).any fun z => (pick b z.1 z.2).isNone) = (oI b p q).any Option.isNone := by unfold oI; rw [List.any_map]; rfl
  have a2 : ((p.rows.zip q.rows).any fun z => (pick b z.1.2 z.2.2).isNone) = (oR b p q).any Option.isNone := by unfold oR; rw [List.any_map]; rfl
  rw [a1] at n1
  rw [a2] at n2
  have mo : ((p.ins.zip q.ins).map fun z => eO (pick b z.1 z.2)) = (oI b p q).map eO := by unfold oI; rw [List.map_map]; rfl
  have t1 := tuple_ref g0 (by simp [lim]; have := hp.il; omega)
  have t2 := tuple_ref g1 (by simp [lim]; have := hp.rl; omega)
  rw [mo] at t1
  have e2 : two b p q = match (if (oI b p q).any Option.isNone || (oR b p q).any Option.isNone then none else some ()), pick (!b) p.out q.out with
      | some _, some o => some ⟨p.nm, got (oI b p q), fixR p.rows (oR b p q), o⟩
      | _, _ => none := by
    cases b
    · show bd p q = _
      unfold bd
      have x1 : oI false p q = mI p q := rfl
      have x2 : oR false p q = mR p q := rfl
      rw [x1, x2]
      cases c : ((mI p q).any Option.isNone || (mR p q).any Option.isNone) <;> simp [pick]
    · show bb p q = _
      unfold bb
      have y := oR_true p q
      have z1 : (oI true p q).any Option.isNone = false := any_none_true _
      have z2 : got (oI true p q) = jI p q := got_true _
      rw [y.1, y.2, z1, z2]
      cases c : mt p.out q.out <;> simp [pick, c]
  have hu := fun S => e_union (S := S) hp.out hq.out
  have hc := fun S => e_common (S := S) hp.out hq.out
  have t2' := t2
  clear q1 k1 q2 k2 g0 g1 l3 d3 f3 a1 a2 mo
  generalize hL1 : ((p.ins.zip q.ins).map fun z => eO (pick b z.1 z.2)) = L1 at h1 h2 hS
  cases c1 : (oI b p q).any Option.isNone <;> cases c2 : (oR b p q).any Option.isNone <;> rw [c1] at n1 <;> rw [c2] at n2 <;> rw [e2, c1, c2] <;> (try rw [oR_map b p q c2] at t2') <;> (try rw [got_map (e := eH) (eo := eO) (fun _ => rfl) _ c1] at t1) <;> clear t2 <;> cases b
  all_goals (try (cases c3 : mt p.out q.out))
  all_goals simp [F_law_both_L, d_law_both_L, runF, startP, endOf, dRet, dRetN, dIf, dIfS, dB, dBin, dUn, dV, dC, sE, asB, dSeq, dSet, dPar, dPar3, dAsg, dExpr, dAnd, dOr, dNot, bAnd, bOr, bNot, dTru, dCB, dCons, dNil, dTup, dLst, dChain, dPass, fCmpI, fIsN, gTp, gsCons, gsNil, gNm, mkTup, dSl, dPart, dNoPart, lim, iLt, iLe, iGt, iGe, dFor, iZip2, srcP, ix_p0, ix_p1, ix_p2, ix_p3, zip_map, mkLst, h1, h2, n1, n2, t1, t2', truP, hu, hc, pick, eO_n, eO_s, eOP, fold_p, *]
end G73
end
section
set_option Elab.async false
set_option linter.all false
set_option maxRecDepth 100000
set_option maxHeartbeats 1000000
namespace G73
open PySem PySem.Spec PyProof.Rows L2 Mi

/-! ### the hand, and what is drawn of it -/
section
variable {S : Sto} {a b c d e x : PV} {ρ : EnP}
abbrev hT (S : Sto) (a b c d e : PV) : Sto := S.set 0 (SO.lst [a, b, c, d, e])
theorem hT_get (h : 0 < S.length) : (hT S a b c d e)[0]? = some (SO.lst [a, b, c, d, e]) := by rw [List.getElem?_set_self h]
theorem hT_set (y : SO) : (hT S a b c d e).set 0 y = S.set 0 y := by unfold hT; rw [List.set_set]
theorem seq_ref {n : Nat} {xs : List PV} {S : Sto} (h : S[n]? = some (SO.lst xs)) : seqOf (.ref n) S = some xs := by
  show (match S[n]? with | some (SO.lst xs) => some xs | none => none) = _
  rw [h]
theorem ix_ref {n : Nat} {xs : List PV} {S : Sto} {i : Int} {y : PV} (h : S[n]? = some (SO.lst xs)) (e : atI xs i = some y) : fIx (.ref n) (.int i) S = .ok y S := by
  show (match seqOf (.ref n) S with | some xs => (match atI xs i with | some v => Res.ok v S | none => .bad) | none => .bad) = _
  rw [seq_ref h]
  simp only [e]
theorem ix0 (h : 0 < S.length) : fIx (.ref 0) (.int 0) (hT S a b c d e) = .ok a (hT S a b c d e) := ix_ref (hT_get h) rfl
theorem ix1 (h : 0 < S.length) : fIx (.ref 0) (.int 1) (hT S a b c d e) = .ok b (hT S a b c d e) := ix_ref (hT_get h) rfl
theorem ix2 (h : 0 < S.length) : fIx (.ref 0) (.int 2) (hT S a b c d e) = .ok c (hT S a b c d e) := ix_ref (hT_get h) rfl
theorem ix3 (h : 0 < S.length) : fIx (.ref 0) (.int 3) (hT S a b c d e) = .ok d (hT S a b c d e) := ix_ref (hT_get h) rfl
theorem ix4 (h : 0 < S.length) : fIx (.ref 0) (.int 4) (hT S a b c d e) = .ok e (hT S a b c d e) := ix_ref (hT_get h) rfl
theorem set_ref {n : Nat} {xs : List PV} {S : Sto} {i : Int} {j : Nat} (h : S[n]? = some (SO.lst xs)) (e : ixN xs.length i = some j) : setIx x ρ (.ref n) (.int i) S = .ok ρ (S.set n (SO.lst (xs.set j x))) := by
  show (match S[n]? with | some (SO.lst xs) => (match ixN xs.length i with | some j => Res.ok ρ (S.set n (SO.lst (xs.set j x))) | none => .bad) | none => .bad) = _
  rw [h]
  simp only [e]
theorem st1 (h : 0 < S.length) : setIx x ρ (.ref 0) (.int 1) (hT S a b c d e) = .ok ρ (hT S a x c d e) := by rw [set_ref (hT_get h) (j := 1) rfl, hT_set]; rfl
theorem st2 (h : 0 < S.length) : setIx x ρ (.ref 0) (.int 2) (hT S a b c d e) = .ok ρ (hT S a b x d e) := by rw [set_ref (hT_get h) (j := 2) rfl, hT_set]; rfl
theorem st3 (h : 0 < S.length) : setIx x ρ (.ref 0) (.int 3) (hT S a b c d e) = .ok ρ (hT S a b c x e) := by rw [set_ref (hT_get h) (j := 3) rfl, hT_set]; rfl
theorem st4 (h : 0 < S.length) : setIx x ρ (.ref 0) (.int 4) (hT S a b c d e) = .ok ρ (hT S a b c d x) := by rw [set_ref (hT_get h) (j := 4) rfl, hT_set]; rfl
end
def cellsP (cs : List Int) : PV := .nl (cs.map .int)
theorem len_cells (cs : List Int) (S : Sto) : fLen [cellsP cs] S = .ok (.int cs.length) S := by
  show Res.ok (PV.int ((cs.map PV.int).length : Nat)) S = _
  rw [List.length_map]
theorem ix_cells {cs : List Int} {i : Int} {S : Sto} (h0 : 0 ≤ i) (h1 : i < cs.length) : ∃ y ∈ cs, fIx (cellsP cs) (.int i) S = .ok (.int y) S := by
  have hl : i.toNat < cs.length := by omega
  refine ⟨cs[i.toNat], List.getElem_mem hl, ?_⟩
  have e : atI (cs.map PV.int) i = some (.int cs[i.toNat]) := by
    unfold atI ixN
    rw [List.length_map, if_pos h0, if_pos h1]
    simp [hl]
  show (match atI (cs.map PV.int) i with | some v => Res.ok v S | none => .bad) = _
  rw [e]
structure HB (cs : List Int) (i v s c : Int) (b : Int) : Prop where
  cs : ∀ x ∈ cs, 0 ≤ x ∧ x < 10 ^ 36
  i : 0 ≤ i
  v0 : 0 ≤ v
  v1 : v < 10 ^ 36
  s0 : 0 ≤ s
  s1 : s < 2147483648
  c0 : 0 ≤ c
  c1 : c ≤ b
theorem pow_sm {i j : Int} {S : Sto} (h : 0 ≤ j ∧ j ≤ 1000000 ∧ i.natAbs < 2 ^ 64) : fPow (.int i) (.int j) S = .ok (.int (i ^ j.toNat)) S := by
  show (if 0 ≤ j ∧ j ≤ 1000000 ∧ i.natAbs < 2 ^ 64 then Res.ok (PV.int (i ^ j.toNat)) S else .bad) = _
  rw [if_pos h]
theorem p18 (S : Sto) : fPow (.int 10) (.int 18) S = .ok (.int 1000000000000000000) S := pow_sm (by decide)
theorem p36 (S : Sto) : fPow (.int 10) (.int 36) S = .ok (.int 1000000000000000000000000000000000000) S := pow_sm (by decide)
theorem big40 {i : Int} (h0 : 0 ≤ i) (h1 : i < 10 ^ 40) : i.natAbs ≤ 2 ^ 4000 := by
  have : (10 : Int) ^ 40 ≤ 2 ^ 4000 := by decide +kernel
  omega
def dA : EnP → Sto → SR := (dIfS (bAnd (dB (dBin (fEq false) (dBin fIx (dV 0) (dC (.int 2))) (dC (.int 0)))) (dB (dBin (fCmpI iLt) (dBin fIx (dV 0) (dC (.int 1))) (dCB fLen (dCons (dBin fIx (dV 0) (dC (.int 0))) (dNil)))))) (dSeq (dSet 2 (dBin fIx (dBin fIx (dV 0) (dC (.int 0))) (dBin fIx (dV 0) (dC (.int 1))))) (dSeq (dAsg (dBin (fAdd false) (dBin fIx (dV 0) (dC (.int 1))) (dC (.int 1))) (gIx (dV 0) (dC (.int 1)))) (dSeq (dAsg (dBin fMod (dCB fInt (dCons (dBin (fAdd false) (dBin (fAdd false) (dBin (fMul false) (dBin fIx (dV 0) (dC (.int 3))) (dC (.int 69621))) (dBin (fMul false) (dV 2) (dC (.int 40692)))) (dC (.int 37))) (dNil))) (dC (.int 2147483629))) (gIx (dV 0) (dC (.int 3)))) (dIfS (dB (dBin (fCmpI iGe) (dV 2) (dBin fPow (dC (.int 10)) (dC (.int 18))))) (dAsg (dV 2) (gIx (dV 0) (dC (.int 2)))) (dPass))))) (dPass))
def dBs : EnP → Sto → SR := (dIfS (dB (dBin (fCmpI iGt) (dBin fIx (dV 0) (dC (.int 2))) (dC (.int 0)))) (dSeq (dSet 3 (dBin fMod (dCB fInt (dCons (dBin fIx (dV 0) (dC (.int 2))) (dNil))) (dV 1))) (dSeq (dAsg (dBin fDiv (dBin fIx (dV 0) (dC (.int 2))) (dV 1)) (gIx (dV 0) (dC (.int 2)))) (dRet (dV 3)))) (dPass))
def dCs : EnP → Sto → SR := (dSeq (dAsg (dBin (fAdd false) (dBin fIx (dV 0) (dC (.int 4))) (dC (.int 1))) (gIx (dV 0) (dC (.int 4)))) (dSeq (dSet 4 (dBin fMod (dCB fInt (dCons (dBin (fMul false) (dCB fInt (dCons (dBin (fAdd false) (dBin fIx (dV 0) (dC (.int 3))) (dBin (fMul false) (dC (.int 7919)) (dBin fIx (dV 0) (dC (.int 4))))) (dNil))) (dC (.int 48271))) (dNil))) (dC (.int 2147483647)))) (dSeq (dSet 4 (dBin fMod (dCB fInt (dCons (dBin (fMul false) (dV 4) (dBin (fAdd false) (dBin fDiv (dV 4) (dC (.int 1009))) (dC (.int 69621)))) (dNil))) (dC (.int 2147483647)))) (dSeq (dSet 4 (dBin fMod (dCB fInt (dCons (dBin (fMul false) (dV 4) (dBin (fAdd false) (dBin fDiv (dV 4) (dC (.int 2003))) (dC (.int 40014)))) (dNil))) (dC (.int 2147483563)))) (dRet (dBin fMod (dCB fInt (dCons (dBin fDiv (dV 4) (dC (.int 16))) (dNil))) (dV 1)))))))
theorem d_draw : d_law_draw_L = dSeq dA (dSeq dBs dCs) := rfl
theorem fmod_pos {i m : Int} (hm : 0 < m) : 0 ≤ i.fmod m ∧ i.fmod m < m := by
  rw [Int.fmod_eq_emod_of_nonneg _ (by omega)]
  exact ⟨Int.emod_nonneg _ (by omega), Int.emod_lt_of_pos _ hm⟩
theorem draw_A {S : Sto} (hS : 0 < S.length) {cs : List Int} {i v s c b k : Int} (h : HB cs i v s c b) :
    ∃ x2 i' v' s', dA [some (.ref 0), some (.int k), none, none, none] (hT S (cellsP cs) (.int i) (.int v) (.int s) (.int c)) = .nx [some (.ref 0), some (.int k), x2, none, none] (hT S (cellsP cs) (.int i') (.int v') (.int s') (.int c)) ∧ HB cs i' v' s' c b := by
  by_cases c1 : v = 0
  · by_cases c2 : i < cs.length
    · obtain ⟨y, hy, ey⟩ := ix_cells (S := hT S (cellsP cs) (.int i) (.int v) (.int s) (.int c)) h.i c2
      obtain ⟨y0, y1⟩ := h.cs y hy
      have m1 : ∀ S, fMul false (.int s) (.int 69621) S = .ok (.int (s * 69621)) S := fun S => mul_sm (big40 h.s0 (Int.lt_trans h.s1 (by decide))) (by decide +kernel)
      have m2 : ∀ S, fMul false (.int y) (.int 40692) S = .ok (.int (y * 40692)) S := fun S => mul_sm (big40 y0 (Int.lt_trans y1 (by decide))) (by decide +kernel)
      have m3 : ∀ S j, fMod (.int j) (.int 2147483629) S = .ok (.int (j.fmod 2147483629)) S := fun S j => mod_sm (by decide)
      have f3 := fmod_pos (i := s * 69621 + y * 40692 + 37) (m := 2147483629) (by decide)
      subst c1
      by_cases c3 : (1000000000000000000 : Int) ≤ y
      · refine ⟨some (.int y), i + 1, y, (s * 69621 + y * 40692 + 37).fmod 2147483629, ?_, ⟨h.cs, by have := h.i; omega, y0, y1, f3.1, by omega, h.c0, h.c1⟩⟩
        simp [dA, runF, startP, endOf, dRet, dRetN, dIf, dIfS, dB, dBin, dUn, dV, dC, sE, asB, dSeq, dSet, dPar, dPar3, dAsg, dExpr, dAnd, dOr, dNot, bAnd, bOr, bNot, dTru, dCB, dCons, dNil, dTup, dLst, dChain, dPass, fCmpI, fIsN, gTp, gsCons, gsNil, gNm, mkTup, dSl, dPart, dNoPart, lim, iLt, iLe, iGt, iGe, ix0 hS, ix1 hS, ix2 hS, ix3 hS, len_cells, eq_int, c2, ey, gIx, st1 hS, st2 hS, st3 hS, add_int, m1, m2, m3, int_int, p18, c3]
      · refine ⟨some (.int y), i + 1, 0, (s * 69621 + y * 40692 + 37).fmod 2147483629, ?_, ⟨h.cs, by have := h.i; omega, by decide, by decide, f3.1, by omega, h.c0, h.c1⟩⟩
        simp [dA, runF, startP, endOf, dRet, dRetN, dIf, dIfS, dB, dBin, dUn, dV, dC, sE, asB, dSeq, dSet, dPar, dPar3, dAsg, dExpr, dAnd, dOr, dNot, bAnd, bOr, bNot, dTru, dCB, dCons, dNil, dTup, dLst, dChain, dPass, fCmpI, fIsN, gTp, gsCons, gsNil, gNm, mkTup, dSl, dPart, dNoPart, lim, iLt, iLe, iGt, iGe, ix0 hS, ix1 hS, ix2 hS, ix3 hS, len_cells, eq_int, c2, ey, gIx, st1 hS, st2 hS, st3 hS, add_int, m1, m2, m3, int_int, p18, c3]
    · refine ⟨none, i, v, s, ?_, h⟩
      subst c1
      simp [dA, runF, startP, endOf, dRet, dRetN, dIf, dIfS, dB, dBin, dUn, dV, dC, sE, asB, dSeq, dSet, dPar, dPar3, dAsg, dExpr, dAnd, dOr, dNot, bAnd, bOr, bNot, dTru, dCB, dCons, dNil, dTup, dLst, dChain, dPass, fCmpI, fIsN, gTp, gsCons, gsNil, gNm, mkTup, dSl, dPart, dNoPart, lim, iLt, iLe, iGt, iGe, ix0 hS, ix1 hS, ix2 hS, len_cells, eq_int, c2]
  · refine ⟨none, i, v, s, ?_, h⟩
    simp [dA, runF, startP, endOf, dRet, dRetN, dIf, dIfS, dB, dBin, dUn, dV, dC, sE, asB, dSeq, dSet, dPar, dPar3, dAsg, dExpr, dAnd, dOr, dNot, bAnd, bOr, bNot, dTru, dCB, dCons, dNil, dTup, dLst, dChain, dPass, fCmpI, fIsN, gTp, gsCons, gsNil, gNm, mkTup, dSl, dPart, dNoPart, lim, iLt, iLe, iGt, iGe, ix2 hS, eq_int, c1]
theorem fdiv_sm {v k : Int} (h0 : 0 ≤ v) (hk : 0 < k) : 0 ≤ v.fdiv k ∧ v.fdiv k ≤ v := by
  rw [Int.fdiv_eq_ediv_of_nonneg _ (by omega)]
  exact ⟨Int.ediv_nonneg h0 (by omega), Int.ediv_le_self _ h0⟩
theorem draw_B {S : Sto} (hS : 0 < S.length) {cs : List Int} {i v s c b k : Int} {x2 : Option PV} (hk : 0 < k) (hk2 : k ≤ 1000) (h : HB cs i v s c b) :
    (0 < v ∧ ∃ d v', dBs [some (.ref 0), some (.int k), x2, none, none] (hT S (cellsP cs) (.int i) (.int v) (.int s) (.int c)) = .rt (.int d) (hT S (cellsP cs) (.int i) (.int v') (.int s) (.int c)) ∧ 0 ≤ d ∧ d < k ∧ HB cs i v' s c b) ∨
    (v = 0 ∧ dBs [some (.ref 0), some (.int k), x2, none, none] (hT S (cellsP cs) (.int i) (.int v) (.int s) (.int c)) = .nx [some (.ref 0), some (.int k), x2, none, none] (hT S (cellsP cs) (.int i) (.int v) (.int s) (.int c))) := by
  have m : ∀ S, fMod (.int v) (.int k) S = .ok (.int (v.fmod k)) S := fun S => mod_sm hk
  have d : ∀ S, fDiv (.int v) (.int k) S = .ok (.int (v.fdiv k)) S := fun S => div_sm hk (sm1000 (by omega))
  by_cases hv : 0 < v
  · refine .inl ⟨hv, v.fmod k, v.fdiv k, ?_, (fmod_pos hk).1, (fmod_pos hk).2, ⟨h.cs, h.i, (fdiv_sm h.v0 hk).1, Int.lt_of_le_of_lt (fdiv_sm h.v0 hk).2 h.v1, h.s0, h.s1, h.c0, h.c1⟩⟩
    simp [dBs, runF, startP, endOf, dRet, dRetN, dIf, dIfS, dB, dBin, dUn, dV, dC, sE, asB, dSeq, dSet, dPar, dPar3, dAsg, dExpr, dAnd, dOr, dNot, bAnd, bOr, bNot, dTru, dCB, dCons, dNil, dTup, dLst, dChain, dPass, fCmpI, fIsN, gTp, gsCons, gsNil, gNm, mkTup, dSl, dPart, dNoPart, lim, iLt, iLe, iGt, iGe, ix2 hS, hv, int_int, m, d, gIx, st2 hS]
  · have e : v = 0 := by have := h.v0; omega
    refine .inr ⟨e, ?_⟩
    simp [dBs, runF, startP, endOf, dRet, dRetN, dIf, dIfS, dB, dBin, dUn, dV, dC, sE, asB, dSeq, dSet, dPar, dPar3, dAsg, dExpr, dAnd, dOr, dNot, bAnd, bOr, bNot, dTru, dCB, dCons, dNil, dTup, dLst, dChain, dPass, fCmpI, fIsN, gTp, gsCons, gsNil, gNm, mkTup, dSl, dPart, dNoPart, lim, iLt, iLe, iGt, iGe, ix2 hS, e]
theorem draw_C {S : Sto} (hS : 0 < S.length) {cs : List Int} {i v s c b k : Int} {x2 : Option PV} (hk : 0 < k) (hb : b ≤ 1000000000) (h : HB cs i v s c b) :
    ∃ d, endOf (dCs [some (.ref 0), some (.int k), x2, none, none] (hT S (cellsP cs) (.int i) (.int v) (.int s) (.int c))) = .ok (.int d) (hT S (cellsP cs) (.int i) (.int v) (.int s) (.int (c + 1))) ∧ 0 ≤ d ∧ d < k ∧ HB cs i v s (c + 1) (b + 1) := by
  have hc := h.c0
  have hc1 := h.c1
  have hs0 := h.s0
  have hs1 := h.s1
  have m1 : ∀ S, fMul false (.int 7919) (.int (c + 1)) S = .ok (.int (7919 * (c + 1))) S := fun S => mul_sm (by decide +kernel) (big40 (by omega) (by omega))
  have m2 : ∀ S, fMul false (.int (s + 7919 * (c + 1))) (.int 48271) S = .ok (.int ((s + 7919 * (c + 1)) * 48271)) S := fun S => mul_sm (big40 (by omega) (by omega)) (by decide +kernel)
  have md : ∀ (S : Sto) (j m : Int), 0 < m → fMod (.int j) (.int m) S = .ok (.int (j.fmod m)) S := fun S j m hm => mod_sm hm
  obtain ⟨a0, a1⟩ := fmod_pos (i := (s + 7919 * (c + 1)) * 48271) (m := 2147483647) (by decide)
  generalize hx : ((s + 7919 * (c + 1)) * 48271).fmod 2147483647 = x at a0 a1
  have dd : ∀ (S : Sto) (j m : Int), 0 < m → m ≤ 1000000 → fDiv (.int j) (.int m) S = .ok (.int (j.fdiv m)) S := fun S j m h1 h2 => div_sm h1 (big40 (by omega) (by omega))
  have x0 := fdiv_sm a0 (k := 1009) (by decide)
  have m3 : ∀ S, fMul false (.int x) (.int (x.fdiv 1009 + 69621)) S = .ok (.int (x * (x.fdiv 1009 + 69621))) S := fun S => mul_sm (big40 a0 (by omega)) (big40 (by omega) (by omega))
  obtain ⟨b0, b1⟩ := fmod_pos (i := x * (x.fdiv 1009 + 69621)) (m := 2147483647) (by decide)
  generalize hy : (x * (x.fdiv 1009 + 69621)).fmod 2147483647 = y at b0 b1
  have y0 := fdiv_sm b0 (k := 2003) (by decide)
  have m4 : ∀ S, fMul false (.int y) (.int (y.fdiv 2003 + 40014)) S = .ok (.int (y * (y.fdiv 2003 + 40014))) S := fun S => mul_sm (big40 b0 (by omega)) (big40 (by omega) (by omega))
  obtain ⟨c0, c1⟩ := fmod_pos (i := y * (y.fdiv 2003 + 40014)) (m := 2147483563) (by decide)
  generalize hz : (y * (y.fdiv 2003 + 40014)).fmod 2147483563 = z at c0 c1
  refine ⟨(z.fdiv 16).fmod k, ?_, (fmod_pos hk).1, (fmod_pos hk).2, ⟨h.cs, h.i, h.v0, h.v1, h.s0, h.s1, by omega, by omega⟩⟩
  have q1 := fun S => md S ((s + 7919 * (c + 1)) * 48271) 2147483647 (by decide)
  rw [hx] at q1
  have q2 := fun S => md S (x * (x.fdiv 1009 + 69621)) 2147483647 (by decide)
  rw [hy] at q2
  have q3 := fun S => md S (y * (y.fdiv 2003 + 40014)) 2147483563 (by decide)
  rw [hz] at q3
  have q4 := fun S => md S (z.fdiv 16) k hk
  have r1 := fun S => dd S x 1009 (by decide) (by decide)
  have r2 := fun S => dd S y 2003 (by decide) (by decide)
  have r3 := fun S => dd S z 16 (by decide) (by decide)
  simp [dCs, runF, startP, endOf, dRet, dRetN, dIf, dIfS, dB, dBin, dUn, dV, dC, sE, asB, dSeq, dSet, dPar, dPar3, dAsg, dExpr, dAnd, dOr, dNot, bAnd, bOr, bNot, dTru, dCB, dCons, dNil, dTup, dLst, dChain, dPass, fCmpI, fIsN, gTp, gsCons, gsNil, gNm, mkTup, dSl, dPart, dNoPart, lim, iLt, iLe, iGt, iGe, ix3 hS, ix4 hS, gIx, st4 hS, add_int, m1, m2, m3, m4, q1, q2, q3, q4, r1, r2, r3, int_int]
/-- the hand stands in the store -/
def Hk (b : Int) (S : Sto) : Prop := ∃ cs i v s c, S[0]? = some (SO.lst [cellsP cs, .int i, .int v, .int s, .int c]) ∧ HB cs i v s c b
theorem Hk.mono {b b' : Int} {S : Sto} (h : Hk b S) (hb : b ≤ b') : Hk b' S := by
  obtain ⟨cs, i, v, s, c, e, k⟩ := h
  exact ⟨cs, i, v, s, c, e, ⟨k.cs, k.i, k.v0, k.v1, k.s0, k.s1, k.c0, by have := k.c1; omega⟩⟩
theorem Hk.more {b : Int} {S : Sto} (h : Hk b S) (l : List SO) : Hk b (S ++ l) := by
  obtain ⟨cs, i, v, s, c, e, k⟩ := h
  exact ⟨cs, i, v, s, c, by rw [List.getElem?_append_left (List.getElem?_eq_some_iff.mp e).1]; exact e, k⟩
theorem hT_self {S : Sto} {a b c d e : PV} (h : S[0]? = some (SO.lst [a, b, c, d, e])) : S = hT S a b c d e := by
  unfold hT
  cases S with
  | nil => cases h
  | cons x r =>
    simp at h
    rw [h]
    rfl
theorem e_draw {b k : Int} {S : Sto} (h : Hk b S) (hk : 0 < k) (hk2 : k ≤ 1000) (hb : b ≤ 1000000000) : ∃ d S', F_law_draw_L [.ref 0, .int k] S = .ok (.int d) S' ∧ 0 ≤ d ∧ d < k ∧ Hk (b + 1) S' := by
  obtain ⟨cs, i, v, s, c, e, q⟩ := h
  have hS : 0 < S.length := (List.getElem?_eq_some_iff.mp e).1
  rw [hT_self e]
  obtain ⟨x2, i', v', s', hA, q'⟩ := draw_A (k := k) hS q
  have at_ : ∀ {i v s c : Int} {b' : Int}, HB cs i v s c b' → Hk b' (hT S (cellsP cs) (.int i) (.int v) (.int s) (.int c)) := fun {i v s c b'} q => ⟨cs, i, v, s, c, hT_get hS, q⟩
  have step : F_law_draw_L [.ref 0, .int k] (hT S (cellsP cs) (.int i) (.int v) (.int s) (.int c)) = endOf (match dA [some (.ref 0), some (.int k), none, none, none] (hT S (cellsP cs) (.int i) (.int v) (.int s) (.int c)) with
    | .nx ρ' S' => (match dBs ρ' S' with | .nx ρ' S' => dCs ρ' S' | r => r)
    | r => r) := rfl
  rw [step, hA]
  simp only
  rcases draw_B (x2 := x2) hS hk hk2 q' with ⟨_, d, v2, hB, d0, d1, q2⟩ | ⟨_, hB⟩
  · rw [hB]
    exact ⟨d, _, rfl, d0, d1, (at_ q2).mono (by omega)⟩
  · rw [hB]
    obtain ⟨d, hC, d0, d1, q3⟩ := draw_C (x2 := x2) hS hk hb q'
    simp only
    rw [hC]
    exact ⟨d, _, rfl, d0, d1, at_ q3⟩
end G73
end
section
set_option Elab.async false
set_option linter.all false
set_option maxRecDepth 100000
set_option maxHeartbeats 1000000
namespace G73
open PySem PySem.Spec PyProof.Rows L2 Mi

/-! ### drawn fractions -/
theorem gcd_loop2 (n : Nat) : ∀ (a b : Nat) (x y : PV) (S : Sto), b < n → whileP (dB (dBin (fCmpI iGt) (dV 3) (dC (.int 0)))) (dPar 2 3 (dCons (dV 3) (dCons (dBin fMod (dCB fInt (dCons (dV 2) (dNil))) (dV 3)) (dNil)))) n [some x, some y, some (.int a), some (.int b)] S = .nx [some x, some y, some (.int (Nat.gcd a b)), some (.int 0)] S := by
  induction n with
  | zero => intro a b x y S h; omega
  | succ n ih =>
    intro a b x y S h
    rw [whileP]
    by_cases hb : b = 0
    · subst hb
      simp [runF, startP, endOf, dRet, dRetN, dIf, dIfS, dB, dBin, dUn, dV, dC, sE, asB, dSeq, dSet, dPar, dPar3, dAsg, dExpr, dAnd, dOr, dNot, bAnd, bOr, bNot, dTru, dCB, dCons, dNil, dTup, dLst, dChain, dPass, fCmpI, fIsN, gTp, gsCons, gsNil, gNm, mkTup, dSl, dPart, dNoPart, lim, iLt, iLe, iGt, iGe]
    · have hp : (0 : Int) < (b : Int) := by omega
      have e : fMod (.int a) (.int b) S = .ok (.int ((a % b : Nat) : Int)) S := by rw [mod_sm hp, fmod_nat]
      have lt := Nat.mod_lt a (by omega : 0 < b)
      have step := ih b (a % b) x y S (by omega)
      have hg : Nat.gcd b (a % b) = Nat.gcd a b := by rw [Nat.gcd_comm a b, Nat.gcd_rec b a, Nat.gcd_comm]
      simp only [runF, startP, endOf, dRet, dRetN, dIf, dIfS, dB, dBin, dUn, dV, dC, sE, asB, dSeq, dSet, dPar, dPar3, dAsg, dExpr, dAnd, dOr, dNot, bAnd, bOr, bNot, dTru, dCB, dCons, dNil, dTup, dLst, dChain, dPass, fCmpI, fIsN, gTp, gsCons, gsNil, gNm, mkTup, dSl, dPart, dNoPart, lim, iLt, iLe, iGt, iGe, List.getElem?_cons_succ, List.getElem?_cons_zero, Res.bind_ok, decide_eq_true hp, if_true, int_int, e, List.set_cons_zero, List.set_cons_succ]
      rw [step, hg]
/-- the fraction in lowest terms -/
def low (t b : Int) : Fr := (t.fdiv (Int.gcd t b), b.fdiv (Int.gcd t b))
structure LowOk (t b : Int) (x : Fr) : Prop where
  p : 0 < x.2
  n : x.1.natAbs ≤ t.natAbs
  d : x.2 ≤ b
  g : Int.gcd x.1 x.2 = 1
  e : x.1 * b = t * x.2
  s : 0 ≤ t → 0 ≤ x.1
theorem low_ok {t b : Int} (hb : 0 < b) : LowOk t b (low t b) := by
  have gp : 0 < Int.gcd t b := Int.gcd_pos_of_ne_zero_right _ (by omega)
  have g0 : (0 : Int) < (Int.gcd t b : Int) := by omega
  obtain ⟨u, hu⟩ := Int.gcd_dvd_left t b
  obtain ⟨w, hw⟩ := Int.gcd_dvd_right t b
  have e1 : t.fdiv (Int.gcd t b) = u := by
    rw [Int.fdiv_eq_ediv_of_nonneg _ (Int.le_of_lt g0)]
    exact Int.ediv_eq_of_eq_mul_right (by omega) hu
  have e2 : b.fdiv (Int.gcd t b) = w := by
    rw [Int.fdiv_eq_ediv_of_nonneg _ (Int.le_of_lt g0)]
    exact Int.ediv_eq_of_eq_mul_right (by omega) hw
  have hl : low t b = (u, w) := by unfold low; rw [e1, e2]
  rw [hl]
  generalize hg : (Int.gcd t b : Int) = g at hu hw g0
  have w0 : 0 < w := by
    rcases Int.lt_trichotomy w 0 with h | h | h
    · have := Int.mul_neg_of_pos_of_neg g0 h; omega
    · rw [h, Int.mul_zero] at hw; omega
    · exact h
  refine ⟨w0, ?_, ?_, ?_, ?_, fun h => ?_⟩
  · show u.natAbs ≤ t.natAbs
    rw [hu, Int.natAbs_mul]
    exact Nat.le_mul_of_pos_left _ (by omega)
  · show w ≤ b
    rw [hw]
    have := Int.mul_le_mul_of_nonneg_right (show (1 : Int) ≤ g by omega) (Int.le_of_lt w0)
    omega
  · show Int.gcd u w = 1
    have h := Int.gcd_mul_left g u w
    rw [← hu, ← hw] at h
    have h2 : Int.gcd t b = g.natAbs := by omega
    rw [h2] at h
    have : g.natAbs * Int.gcd u w = g.natAbs * 1 := by omega
    exact Nat.eq_of_mul_eq_mul_left (by omega) this
  · show u * b = t * w
    grind
  · show 0 ≤ u
    rcases Int.lt_or_le u 0 with q | q
    · have := Int.mul_neg_of_pos_of_neg g0 q; omega
    · exact q
theorem e_low {t b : Int} {S : Sto} (hb : 0 < b) (h1 : b ≤ 1000) : F_law_low_L [.int t, .int b] S = .ok (eQ (low t b)) S := by
  have ab : (if t < 0 then -t else t) = (t.natAbs : Int) := by split <;> omega
  have h := gcd_loop2 fuel t.natAbs b.natAbs (.int t) (.int b) S (fuel_big (Nat.le_trans (by omega : b.natAbs ≤ 1000) (by decide +kernel)))
  have eb : ((b.natAbs : Nat) : Int) = b := by omega
  rw [eb] at h
  have gp : 0 < Int.gcd t b := Int.gcd_pos_of_ne_zero_right _ (by omega)
  have gl : Int.gcd t b ≤ 1000 := by
    have := Int.gcd_le_natAbs_right t (by omega : b ≠ 0)
    omega
  have hg : Nat.gcd t.natAbs b.natAbs = Int.gcd t b := rfl
  rw [hg] at h
  have d1 : ∀ S, fDiv (.int t) (.int (Int.gcd t b)) S = .ok (.int (t.fdiv (Int.gcd t b))) S := fun S => div_sm (by omega) (sm1000 (by omega))
  have d2 : ∀ S, fDiv (.int b) (.int (Int.gcd t b)) S = .ok (.int (b.fdiv (Int.gcd t b))) S := fun S => div_sm (by omega) (sm1000 (by omega))
  simp [F_law_low_L, d_law_low_L, runF, startP, endOf, dRet, dRetN, dIf, dIfS, dB, dBin, dUn, dV, dC, sE, asB, dSeq, dSet, dPar, dPar3, dAsg, dExpr, dAnd, dOr, dNot, bAnd, bOr, bNot, dTru, dCB, dCons, dNil, dTup, dLst, dChain, dPass, fCmpI, fIsN, gTp, gsCons, gsNil, gNm, mkTup, dSl, dPart, dNoPart, lim, iLt, iLe, iGt, iGe, abs_int, ab, h, d1, d2, low, eQ]
theorem LowOk.q {t b : Int} {x : Fr} (h : LowOk t b x) (h1 : t.natAbs ≤ 1000) (h2 : b ≤ 1000) : QOk x := ⟨Nat.le_trans h.n h1, h.p, Int.le_trans h.d h2, h.g⟩
theorem e_plus {x y : Fr} {S : Sto} (hx : QOk x) (hy : QOk y) (h : x.2 * y.2 ≤ 1000) : F_law_plus_L [eQ x, eQ y] S = .ok (eQ (low (x.1 * y.2 + y.1 * x.2) (x.2 * y.2))) S := by
  have hp : 0 < x.2 * y.2 := Int.mul_pos hx.p hy.p
  simp [F_law_plus_L, d_law_plus_L, runF, startP, endOf, dRet, dRetN, dIf, dIfS, dB, dBin, dUn, dV, dC, sE, asB, dSeq, dSet, dPar, dPar3, dAsg, dExpr, dAnd, dOr, dNot, bAnd, bOr, bNot, dTru, dCB, dCons, dNil, dTup, dLst, dChain, dPass, fCmpI, fIsN, gTp, gsCons, gsNil, gNm, mkTup, dSl, dPart, dNoPart, lim, iLt, iLe, iGt, iGe, ix_q0, ix_q1, mul_sm hx.s1 hy.s2, mul_sm hy.s1 hx.s2, mul_sm hx.s2 hy.s2, add_int, e_low hp h]
theorem le_plus {x y z : Fr} (hx : 0 < x.2) (hy : 0 < y.2) (hz : 0 < z.2) (hn : 0 ≤ y.1) (e : z.1 * (x.2 * y.2) = (x.1 * y.2 + y.1 * x.2) * z.2) : leB x z = true := by
  unfold leB
  rw [decide_eq_true_eq]
  have p1 : 0 < x.2 * y.2 := Int.mul_pos hx hy
  have n1 : 0 ≤ y.1 * x.2 * z.2 * x.2 := Int.mul_nonneg (Int.mul_nonneg (Int.mul_nonneg hn (Int.le_of_lt hx)) (Int.le_of_lt hz)) (Int.le_of_lt hx)
  have k : (x.1 * z.2) * (x.2 * y.2) ≤ (z.1 * x.2) * (x.2 * y.2) := by
    have : (z.1 * x.2) * (x.2 * y.2) = (x.1 * z.2) * (x.2 * y.2) + y.1 * x.2 * z.2 * x.2 := by grind
    omega
  exact Int.le_of_mul_le_mul_right k p1
/-- a hold is drawn -/
theorem e_hold_draw {b : Int} {S : Sto} (h : Hk b S) (hb : b ≤ 999999000) : ∃ k S', F_law_hold_L [.ref 0] S = .ok (eH k) S' ∧ HOk k ∧ Hk (b + 6) S' := by
  obtain ⟨d1, S1, e1, a1, b1, k1⟩ := e_draw (k := 7) h (by decide) (by decide) (by omega)
  obtain ⟨d2, S2, e2, a2, b2, k2⟩ := e_draw (k := 2) k1 (by decide) (by decide) (by omega)
  obtain ⟨d3, S3, e3, a3, b3, k3⟩ := e_draw (k := 7) k2 (by decide) (by decide) (by omega)
  obtain ⟨d4, S4, e4, a4, b4, k4⟩ := e_draw (k := 2) k3 (by decide) (by decide) (by omega)
  obtain ⟨d5, S5, e5, a5, b5, k5⟩ := e_draw (k := 4) k4 (by decide) (by decide) (by omega)
  obtain ⟨d6, S6, e6, a6, b6, k6⟩ := e_draw (k := 8) k5 (by decide) (by decide) (by omega)
  have l1 := low_ok (t := d1 - 3) (b := 1 + d2) (by omega)
  have l2 := low_ok (t := d3) (b := 1 + d4) (by omega)
  have l3 := low_ok (t := d5) (b := 1 + d6) (by omega)
  have f1 := fun S => e_low (t := d1 - 3) (b := 1 + d2) (S := S) (by omega) (by omega)
  have f2 := fun S => e_low (t := d3) (b := 1 + d4) (S := S) (by omega) (by omega)
  have f3 := fun S => e_low (t := d5) (b := 1 + d6) (S := S) (by omega) (by omega)
  generalize low (d1 - 3) (1 + d2) = x at l1 f1
  generalize low d3 (1 + d4) = y at l2 f2
  generalize low d5 (1 + d6) = z at l3 f3
  have q1 := l1.q (by omega) (by omega)
  have q2 := l2.q (by omega) (by omega)
  have q3 := l3.q (by omega) (by omega)
  have x2 : x.2 = 1 ∨ x.2 = 2 := by have := l1.p; have := l1.d; omega
  have y2 : y.2 = 1 ∨ y.2 = 2 := by have := l2.p; have := l2.d; omega
  have xy : x.2 * y.2 ≤ 4 ∧ 0 < x.2 * y.2 ∧ (x.1 * y.2 + y.1 * x.2).natAbs ≤ 100 := by
    have := l1.n
    have := l2.n
    rcases x2 with e | e <;> rcases y2 with e' | e' <;> rw [e, e'] <;> refine ⟨by omega, by omega, by omega⟩
  have f4 := fun S => e_plus (S := S) q1 q2 (by omega)
  have l4 := low_ok (t := x.1 * y.2 + y.1 * x.2) (b := x.2 * y.2) xy.2.1
  generalize low (x.1 * y.2 + y.1 * x.2) (x.2 * y.2) = w at l4 f4
  have q4 := l4.q (by omega) (by omega)
  refine ⟨⟨x, w, z⟩, S6, ?_, ⟨q1, q4, q3, le_plus l1.p l2.p l4.p (l2.s (by omega)) l4.e, l3.s (by omega)⟩, k6.mono (by omega)⟩
  simp [F_law_hold_L, d_law_hold_L, runF, startP, endOf, dRet, dRetN, dIf, dIfS, dB, dBin, dUn, dV, dC, sE, asB, dSeq, dSet, dPar, dPar3, dAsg, dExpr, dAnd, dOr, dNot, bAnd, bOr, bNot, dTru, dCB, dCons, dNil, dTup, dLst, dChain, dPass, fCmpI, fIsN, gTp, gsCons, gsNil, gNm, mkTup, dSl, dPart, dNoPart, lim, iLt, iLe, iGt, iGe, e1, e2, e3, e4, e5, e6, sub_int', add_int, f1, f2, f3, f4, fold_h]
end G73
end
section
set_option Elab.async false
set_option linter.all false
set_option maxRecDepth 100000
set_option maxHeartbeats 1000000
namespace G73
open PySem PySem.Spec PyProof.Rows L2 Mi

/-! ### drawn promises -/
theorem lcP_draw {α β γ : Type} {f : PV → EnP → Option EnP} {de : EnP → Sto → Res PV} {ρ : EnP} (enc : α → PV) (e : β → PV) (P : α → Prop) (Q : β → Prop) (key : β → γ) (key' : α → γ) (k : Nat)
    (h : ∀ (x : α) (S : Sto) (b : Int), P x → Hk b S → b ≤ 999990000 → ∃ ρ1 y S', f (enc x) ρ = some ρ1 ∧ de ρ1 S = .ok (e y) S' ∧ Q y ∧ key y = key' x ∧ Hk (b + k) S') :
    ∀ (xs : List α) (acc : List PV) (S : Sto) (b : Int), (∀ x ∈ xs, P x) → Hk b S → b + k * xs.length ≤ 999990000 → acc.length + xs.length ≤ 1000 →
      ∃ (ys : List β) (S' : Sto), lcP f dYes de ρ (xs.map enc) acc S = .ok (acc ++ ys.map e) S' ∧ (∀ y ∈ ys, Q y) ∧ ys.map key = xs.map key' ∧ Hk (b + k * xs.length) S'
  | [], acc, S, b, _, hS, _, _ => ⟨[], S, by simp [lcP], by simp, rfl, by simpa using hS⟩
  | x :: xs, acc, S, b, hP, hS, hb, hl => by
    rw [List.length_cons] at hb hl
    have e0 : (k : Int) * ((xs.length + 1 : Nat) : Int) = k * xs.length + k := by rw [Int.natCast_add, Int.mul_add]; simp
    rw [e0] at hb
    have kn : 0 ≤ (k : Int) * (xs.length : Int) := Int.mul_nonneg (by omega) (by omega)
    obtain ⟨ρ1, y, S1, e1, e2, q, ky, h1⟩ := h x S b (hP x List.mem_cons_self) hS (by omega)
    obtain ⟨ys, S2, e3, q3, k3, h3⟩ := lcP_draw enc e P Q key key' k h xs (acc ++ [e y]) S1 (b + k) (fun z hz => hP z (List.mem_cons_of_mem _ hz)) h1 (by omega) (by simp; omega)
    refine ⟨y :: ys, S2, ?_, ?_, ?_, ?_⟩
    · rw [List.map_cons, lcP]
      simp only [e1, dYes, e2]
      rw [if_pos (by unfold lim; omega), e3]
      simp
    · intro z hz
      rcases List.mem_cons.mp hz with rfl | hz
      · exact q
      · exact q3 z hz
    · rw [List.map_cons, List.map_cons, ky, k3]
    · rw [List.length_cons, e0]
      have : b + (k * xs.length + k) = b + k + k * xs.length := by omega
      rw [this]
      exact h3
theorem upTo_map (n : Nat) : Mi.upTo 0 n = (List.range n).map fun (i : Nat) => PV.int (i : Int) := by
  unfold Mi.upTo
  congr 1
  funext i
  simp
theorem e_any {b : Int} {S : Sto} {xs : List PV} (h : Hk b S) (hb : b ≤ 999999000) (hx : 0 < xs.length) (hx2 : xs.length ≤ 1000) : ∃ y ∈ xs, ∃ S', F_law_any_L [.ref 0, .nl xs] S = .ok y S' ∧ Hk (b + 1) S' := by
  obtain ⟨d, S1, e1, a1, b1, k1⟩ := e_draw (k := xs.length) h (by omega) (by omega) (by omega)
  have hl : d.toNat < xs.length := by omega
  refine ⟨xs[d.toNat], List.getElem_mem hl, S1, ?_, k1⟩
  have e : atI xs d = some xs[d.toNat] := by
    unfold atI ixN
    rw [if_pos a1, if_pos (by omega)]
    simp [hl]
  have e2 : fIx (.nl xs) (.int d) S1 = .ok xs[d.toNat] S1 := by
    show (match atI xs d with | some v => Res.ok v S1 | none => .bad) = _
    rw [e]
  simp [F_law_any_L, d_law_any_L, runF, startP, endOf, dRet, dRetN, dIf, dIfS, dB, dBin, dUn, dV, dC, sE, asB, dSeq, dSet, dPar, dPar3, dAsg, dExpr, dAnd, dOr, dNot, bAnd, bOr, bNot, dTru, dCB, dCons, dNil, dTup, dLst, dChain, dPass, fCmpI, fIsN, gTp, gsCons, gsNil, gNm, mkTup, dSl, dPart, dNoPart, lim, iLt, iLe, iGt, iGe, len_nl, e1, e2]
def eSh (m : Int) (ls : List Int) : PV := .tup [.int m, .tup (ls.map .int)]
structure ShOk (m : Int) (ls : List Int) : Prop where
  m0 : 0 ≤ m
  m1 : m ≤ 3
  l : ls.length ≤ 3
  r : ∀ x ∈ ls, 1 ≤ x ∧ x ≤ 30
theorem map_id_key {α : Type} (l : List α) : (l.map fun x => x) = l := by simp
theorem e_shape {b : Int} {S : Sto} (h : Hk b S) (hb : b ≤ 999980000) : ∃ m ls S', F_law_shape_L [.ref 0] S = .ok (eSh m ls) S' ∧ ShOk m ls ∧ m ≤ 2 ∧ ls.length ≤ 2 ∧ Hk (b + 5) S' := by
  obtain ⟨m, S1, e1, a1, b1, k1⟩ := e_draw (k := 3) h (by decide) (by decide) (by omega)
  obtain ⟨n, S2, e2, a2, b2, k2⟩ := e_draw (k := 3) k1 (by decide) (by decide) (by omega)
  obtain ⟨ys, S3, e3, q3, kk, h3⟩ := lcP_draw (f := cNm 1) (de := dBin (fAdd false) (dC (.int 1)) (dCB F_law_draw_L (dCons (dV 0) (dCons (dC (.int 3)) (dNil))))) (ρ := wipeP [some (.ref 0), none] [1]) (fun (i : Nat) => PV.int (i : Int)) (fun (y : Int) => PV.int y) (fun _ => True) (fun y => 1 ≤ y ∧ y ≤ 30) (fun _ => ()) (fun _ => ()) 1
    (fun x S b _ hS hb => by
      obtain ⟨d, S', e, d0, d1, k⟩ := e_draw (k := 3) hS (by decide) (by decide) (by omega)
      refine ⟨_, 1 + d, S', rfl, ?_, ⟨by omega, by omega⟩, rfl, k⟩
      show ((F_law_draw_L [.ref 0, .int 3] S).bind fun y S2 => fAdd false (.int 1) y S2) = _
      rw [e]
      rfl) (List.range n.toNat) [] S2 (b + 1 + 1) (fun _ _ => trivial) k2 (by rw [List.length_range]; omega) (by simp; omega)
  rw [← upTo_map] at e3
  have hlen : ys.length = n.toNat := by have := congrArg List.length kk; simpa using this
  refine ⟨m, ys, S3, ?_, ⟨a1, by omega, by omega, q3⟩, by omega, by omega, h3.mono (by rw [List.length_range]; omega)⟩
  have r1 : iRange (dCons (dCB F_law_draw_L (dCons (dV 0) (dCons (dC (.int 3)) (dNil)))) (dNil)) [some (.ref 0), none] S1 = .ok (Mi.upTo 0 n.toNat) S2 := by
    show (((F_law_draw_L [.ref 0, .int 3] S1).bind fun x S1 => Res.ok [x] S1).bind fun xs S1 => match xs with
      | [.int j] => if -1000000 ≤ j ∧ j ≤ 1000000 then Res.ok (Mi.upTo 0 j.toNat) S1 else .bad
      | [.int i, .int j] => if -1000000 ≤ i ∧ i ≤ 1000000 ∧ -1000000 ≤ j ∧ j ≤ 1000000 then .ok (Mi.upTo i (j - i).toNat) S1 else .bad
      | _ => .bad) = _
    rw [e2]
    show (if -1000000 ≤ n ∧ n ≤ 1000000 then Res.ok (Mi.upTo 0 n.toNat) S2 else .bad) = _
    rw [if_pos (by omega)]
  have lc : dLc false (iRange (dCons (dCB F_law_draw_L (dCons (dV 0) (dCons (dC (.int 3)) (dNil)))) (dNil))) (cNm 1) (dYes) (dBin (fAdd false) (dC (.int 1)) (dCB F_law_draw_L (dCons (dV 0) (dCons (dC (.int 3)) (dNil))))) [1] [some (.ref 0), none] S1 = .ok (.nl (ys.map .int)) S3 := by
    unfold dLc
    rw [r1, Res.bind_ok, e3, Res.bind_ok]
    unfold mkLst
    rw [if_pos (by simp [lim]; omega)]
    simp
  have t := tuple_nl (S := S3) (xs := ys.map PV.int) (by simp [lim]; omega)
  simp [F_law_shape_L, d_law_shape_L, runF, startP, endOf, dRet, dRetN, dIf, dIfS, dB, dBin, dUn, dV, dC, sE, asB, dSeq, dSet, dPar, dPar3, dAsg, dExpr, dAnd, dOr, dNot, bAnd, bOr, bNot, dTru, dCB, dCons, dNil, dTup, dLst, dChain, dPass, fCmpI, fIsN, gTp, gsCons, gsNil, gNm, mkTup, dSl, dPart, dNoPart, lim, iLt, iLe, iGt, iGe, e1, lc, t, eSh]
theorem ix_s0 (m : Int) (ls : List Int) (S : Sto) : fIx (eSh m ls) (.int 0) S = .ok (.int m) S := rfl
theorem ix_s1 (m : Int) (ls : List Int) (S : Sto) : fIx (eSh m ls) (.int 1) S = .ok (.tup (ls.map .int)) S := rfl
theorem e_promise_draw {b : Int} {S : Sto} {m : Int} {ls : List Int} (h : Hk b S) (hb : b ≤ 999900000) (hs : ShOk m ls) :
    ∃ p S', F_law_promise_L [.ref 0, eSh m ls] S = .ok (eP p) S' ∧ POk p ∧ p.ins.length = m.toNat ∧ heads p.rows = ls ∧ Hk (b + 100) S' := by
  have m0 := hs.m0
  have m1 := hs.m1
  have ll := hs.l
  obtain ⟨ys, S3, e3, q3, kk, h3⟩ := lcP_draw (f := cNm 3) (de := dCB F_law_hold_L (dCons (dV 0) (dNil))) (ρ := wipeP [some (.ref 0), some (eSh m ls), none, none, none, none] [3]) (fun (i : Nat) => PV.int (i : Int)) eH (fun _ => True) HOk (fun _ => ()) (fun _ => ()) 6
    (fun x S b _ hS hb => by
      obtain ⟨k, S', e, ok, hk⟩ := e_hold_draw hS (by omega)
      exact ⟨_, k, S', rfl, e, ok, rfl, hk⟩) (List.range m.toNat) [] S b (fun _ _ => trivial) h (by rw [List.length_range]; omega) (by simp; omega)
  rw [← upTo_map] at e3
  have hlen : ys.length = m.toNat := by have := congrArg List.length kk; simpa using this
  have lc : dLc false (iRange (dCons (dBin fIx (dV 1) (dC (.int 0))) (dNil))) (cNm 3) (dYes) (dCB F_law_hold_L (dCons (dV 0) (dNil))) [3] [some (.ref 0), some (eSh m ls), none, none, none, none] S = .ok (.nl (ys.map eH)) S3 := by
    have r1 : iRange (dCons (dBin fIx (dV 1) (dC (.int 0))) (dNil)) [some (.ref 0), some (eSh m ls), none, none, none, none] S = .ok (Mi.upTo 0 m.toNat) S := by
      show (if -1000000 ≤ m ∧ m ≤ 1000000 then Res.ok (Mi.upTo 0 m.toNat) S else .bad) = _
      rw [if_pos (by omega)]
    unfold dLc
    rw [r1, Res.bind_ok, e3, Res.bind_ok]
    unfold mkLst
    rw [if_pos (by simp [lim]; omega)]
    simp
  rw [List.length_range] at h3
  have h3 := h3.mono (b' := b + 18) (by omega)
  obtain ⟨rs, S4, e4, q4, k4, h4⟩ := lcP_draw (f := cNm 5) (de := dTup (dCons (dV 5) (dCons (dCB F_law_hold_L (dCons (dV 0) (dNil))) (dNil)))) (ρ := wipeP [some (.ref 0), some (eSh m ls), some (.tup (ys.map eH)), none, none, none] [5]) (fun (i : Int) => PV.int i) eR (fun x => 1 ≤ x ∧ x ≤ 30) ROk (fun r => r.1) (fun x => x) 6
    (fun x S b hx hS hb => by
      obtain ⟨k, S', e, ok, hk⟩ := e_hold_draw hS (by omega)
      refine ⟨_, (x, k), S', rfl, ?_, ⟨hx.1, hx.2, ok⟩, rfl, hk⟩
      show ((((F_law_hold_L [.ref 0] S).bind fun y S2 => Res.ok [y] S2).bind fun r S2 => Res.ok (PV.int x :: r) S2).bind fun xs S1 => mkTup xs S1) = _
      rw [e]
      rfl) ls [] S3 (b + 18) hs.r h3 (by omega) (by simp; omega)
  have hr : heads rs = ls := by unfold heads; rw [k4]; simp
  have hrl : rs.length = ls.length := by have := congrArg List.length hr; unfold heads at this; simpa using this
  have lc2 : dLc false (iSeq (dBin fIx (dV 1) (dC (.int 1)))) (cNm 5) (dYes) (dTup (dCons (dV 5) (dCons (dCB F_law_hold_L (dCons (dV 0) (dNil))) (dNil)))) [5] [some (.ref 0), some (eSh m ls), some (.tup (ys.map eH)), none, none, none] S3 = .ok (.nl (rs.map eR)) S4 := by
    have r1 : iSeq (dBin fIx (dV 1) (dC (.int 1))) [some (.ref 0), some (eSh m ls), some (.tup (ys.map eH)), none, none, none] S3 = .ok (ls.map PV.int) S3 := rfl
    unfold dLc
    rw [r1, Res.bind_ok, e4, Res.bind_ok]
    unfold mkLst
    rw [if_pos (by simp [lim]; omega)]
    simp
  have h4 := h4.mono (b' := b + 36) (by omega)
  obtain ⟨nm, hnm, S5, e5, h5⟩ := e_any (xs := [.str "a", .str "bb", .str "proc"]) h4 (by omega) (by decide) (by decide)
  obtain ⟨k, S6, e6, ok, h6⟩ := e_hold_draw h5 (by omega)
  have nms : ∃ n : Str, nm = .str n ∧ n ∈ (["a", "bb", "proc", "b"] : List Str) := by
    simp only [List.mem_cons, List.not_mem_nil, or_false] at hnm
    rcases hnm with rfl | rfl | rfl
    · exact ⟨_, rfl, by decide +kernel⟩
    · exact ⟨_, rfl, by decide +kernel⟩
    · exact ⟨_, rfl, by decide +kernel⟩
  obtain ⟨n, rfl, hn⟩ := nms
  refine ⟨⟨n, ys, rs, k⟩, S6, ?_, ⟨hn, by show ys.length ≤ 6; omega, q3, by show rs.length ≤ 3; omega, q4, ok⟩, hlen, hr, h6.mono (by omega)⟩
  have t1 := tuple_nl (S := S3) (xs := ys.map eH) (by simp [lim]; omega)
  have t2 := tuple_nl (S := S4) (xs := rs.map eR) (by simp [lim]; omega)
  have l5 : dLst false (dCons (dC (.str ("a" : Str))) (dCons (dC (.str ("bb" : Str))) (dCons (dC (.str ("proc" : Str))) (dNil)))) [some (.ref 0), some (eSh m ls), some (.tup (ys.map eH)), none, some (.tup (rs.map eR)), none] S4 = .ok (.nl [.str "a", .str "bb", .str "proc"]) S4 := rfl
  simp [F_law_promise_L, d_law_promise_L, runF, startP, endOf, dSeq, dSet, dRet, sE, dTup, dCB, dCons, dNil, dV, mkTup, lim, lc, lc2, t1, t2, l5, e5, e6, fold_p]
end G73
end
section
set_option Elab.async false
set_option linter.all false
set_option maxRecDepth 100000
set_option maxHeartbeats 1000000
namespace G73
open PySem PySem.Spec PyProof.Rows L2 Mi

/-! ### the order of fractions -/
theorem le_tr {x y z : Fr} (hx : QOk x) (hy : QOk y) (hz : QOk z) (h1 : leB x y = true) (h2 : leB y z = true) : leB x z = true := by
  unfold leB at *
  rw [decide_eq_true_eq] at *
  have h3 := Int.mul_le_mul_of_nonneg_right h1 (Int.le_of_lt hz.p)
  have h4 := Int.mul_le_mul_of_nonneg_right h2 (Int.le_of_lt hx.p)
  have h5 : (x.1 * z.2) * y.2 ≤ (z.1 * x.2) * y.2 := by
    have e1 : x.1 * y.2 * z.2 = (x.1 * z.2) * y.2 := by grind
    have e2 : y.1 * x.2 * z.2 = y.1 * z.2 * x.2 := by grind
    have e3 : z.1 * y.2 * x.2 = (z.1 * x.2) * y.2 := by grind
    omega
  exact Int.le_of_mul_le_mul_right h5 hy.p
theorem le_rf (x : Fr) : leB x x = true := by unfold leB; simp
theorem le_tot (x y : Fr) : leB x y = true ∨ leB y x = true := by
  unfold leB
  simp only [decide_eq_true_eq]
  omega
theorem cop_dvd {a b c : Int} (g : Int.gcd a b = 1) (h : b ∣ a * c) : b ∣ c := by
  have h1 := Int.natAbs_dvd_natAbs.mpr h
  rw [Int.natAbs_mul] at h1
  have h2 : Nat.Coprime b.natAbs a.natAbs := by
    show Nat.gcd _ _ = 1
    rw [Nat.gcd_comm]
    exact g
  exact Int.natAbs_dvd_natAbs.mp (h2.dvd_of_dvd_mul_left h1)
theorem le_an {x y : Fr} (hx : QOk x) (hy : QOk y) (h1 : leB x y = true) (h2 : leB y x = true) : x = y := by
  unfold leB at *
  rw [decide_eq_true_eq] at *
  have e : x.1 * y.2 = y.1 * x.2 := Int.le_antisymm h1 h2
  have d1 : x.2 ∣ y.2 := by
    have h : x.2 ∣ x.1 * y.2 := ⟨y.1, by rw [e, Int.mul_comm]⟩
    exact cop_dvd hx.g h
  have d2 : y.2 ∣ x.2 := by
    have h : y.2 ∣ y.1 * x.2 := ⟨x.1, by rw [← e, Int.mul_comm]⟩
    exact cop_dvd hy.g h
  have e2 : x.2 = y.2 := Int.dvd_antisymm (Int.le_of_lt hx.p) (Int.le_of_lt hy.p) d1 d2
  have e1 : x.1 = y.1 := by
    rw [e2] at e
    exact Int.eq_of_mul_eq_mul_right (by have := hy.p; omega) e
  exact Prod.ext e1 e2
theorem mn_l (x y : Fr) : leB (mn x y) x = true := by
  unfold mn
  split
  · exact le_rf x
  · rcases le_tot x y with h | h
    · contradiction
    · exact h
theorem mn_r (x y : Fr) : leB (mn x y) y = true := by
  unfold mn
  split
  · assumption
  · exact le_rf y
theorem mx_l (x y : Fr) : leB x (mx x y) = true := by
  unfold mx
  split
  · assumption
  · exact le_rf x
theorem mx_r (x y : Fr) : leB y (mx x y) = true := by
  unfold mx
  split
  · exact le_rf y
  · rcases le_tot x y with h | h
    · contradiction
    · exact h
theorem le_mn {x y z : Fr} (h1 : leB z x = true) (h2 : leB z y = true) : leB z (mn x y) = true := by unfold mn; split <;> assumption
theorem mx_le {x y z : Fr} (h1 : leB x z = true) (h2 : leB y z = true) : leB (mx x y) z = true := by unfold mx; split <;> assumption
theorem mn_cm {x y : Fr} (hx : QOk x) (hy : QOk y) : mn x y = mn y x := le_an (mn_ok hx hy) (mn_ok hy hx) (le_mn (mn_r x y) (mn_l x y)) (le_mn (mn_r y x) (mn_l y x))
theorem mx_cm {x y : Fr} (hx : QOk x) (hy : QOk y) : mx x y = mx y x := le_an (mx_ok hx hy) (mx_ok hy hx) (mx_le (mx_r y x) (mx_l y x)) (mx_le (mx_r x y) (mx_l x y))
theorem mn_nn {x y : Fr} (hx : 0 ≤ x.1) (hy : 0 ≤ y.1) : 0 ≤ (mn x y).1 := by unfold mn; split <;> assumption
theorem mx_nn {x y : Fr} (hx : 0 ≤ x.1) (hy : 0 ≤ y.1) : 0 ≤ (mx x y).1 := by unfold mx; split <;> assumption
theorem mn_self (x : Fr) : mn x x = x := by unfold mn; split <;> rfl
theorem mx_self (x : Fr) : mx x x = x := by unfold mx; split <;> rfl
/-! holds -/
theorem jn_ok {a b : Hd} (ha : HOk a) (hb : HOk b) : HOk (jn a b) :=
  ⟨mn_ok ha.lo hb.lo, mx_ok ha.hi hb.hi, mx_ok ha.off hb.off, le_tr (mn_ok ha.lo hb.lo) ha.lo (mx_ok ha.hi hb.hi) (mn_l _ _) (le_tr ha.lo ha.hi (mx_ok ha.hi hb.hi) ha.le (mx_l _ _)), mx_nn ha.nn hb.nn⟩
theorem cov_iff {a b : Hd} : cov a b = true ↔ leB a.lo b.lo = true ∧ leB b.hi a.hi = true ∧ leB b.off a.off = true := by unfold cov; simp
theorem jn_covl (a b : Hd) : cov (jn a b) a = true := cov_iff.mpr ⟨mn_l _ _, mx_l _ _, mx_l _ _⟩
theorem jn_covr (a b : Hd) : cov (jn a b) b = true := cov_iff.mpr ⟨mn_r _ _, mx_r _ _, mx_r _ _⟩
theorem cov_jn {a b c : Hd} (h1 : cov c a = true) (h2 : cov c b = true) : cov c (jn a b) = true := by
  rw [cov_iff] at *
  exact ⟨le_mn h1.1 h2.1, mx_le h1.2.1 h2.2.1, mx_le h1.2.2 h2.2.2⟩
theorem jn_cm {a b : Hd} (ha : HOk a) (hb : HOk b) : jn a b = jn b a := by unfold jn; rw [mn_cm ha.lo hb.lo, mx_cm ha.hi hb.hi, mx_cm ha.off hb.off]
theorem jn_self (a : Hd) : jn a a = a := by unfold jn; rw [mn_self, mx_self, mx_self]
theorem mt_some {a b k : Hd} (ha : HOk a) (hb : HOk b) (h : mt a b = some k) : HOk k ∧ cov a k = true ∧ cov b k = true := by
  unfold mt at h
  split at h
  · rename_i hl
    cases h
    exact ⟨⟨mx_ok ha.lo hb.lo, mn_ok ha.hi hb.hi, mn_ok ha.off hb.off, hl, mn_nn ha.nn hb.nn⟩, cov_iff.mpr ⟨mx_l _ _, mn_l _ _, mn_l _ _⟩, cov_iff.mpr ⟨mx_r _ _, mn_r _ _, mn_r _ _⟩⟩
  · cases h
theorem mt_cov {a b k : Hd} (ha : HOk a) (hb : HOk b) (hk : HOk k) (h1 : cov a k = true) (h2 : cov b k = true) : ∃ r, mt a b = some r ∧ cov r k = true := by
  rw [cov_iff] at h1 h2
  have q1 := mx_le h1.1 h2.1
  have q2 := le_mn h1.2.1 h2.2.1
  have l : leB (mx a.lo b.lo) (mn a.hi b.hi) = true := le_tr (mx_ok ha.lo hb.lo) hk.lo (mn_ok ha.hi hb.hi) q1 (le_tr hk.lo hk.hi (mn_ok ha.hi hb.hi) hk.le q2)
  exact ⟨_, by unfold mt; rw [if_pos l], cov_iff.mpr ⟨q1, q2, le_mn h1.2.2 h2.2.2⟩⟩
theorem mt_cm {a b : Hd} (ha : HOk a) (hb : HOk b) : mt a b = mt b a := by unfold mt; rw [mx_cm ha.lo hb.lo, mn_cm ha.hi hb.hi, mn_cm ha.off hb.off]
theorem mt_self {a : Hd} (ha : HOk a) : mt a a = some a := by unfold mt; rw [mx_self, mn_self, mn_self, if_pos ha.le]
/-! rows of things that have holds -/
section
variable {α γ : Type} (h : α → Hd) (C : α → Hd → α) (key : α → γ)
def cv (xs ys : List α) : Bool := (xs.zip ys).all fun z => cov (h z.1) (h z.2)
def Jl (xs ys : List α) : List α := (xs.zip ys).map fun z => C z.1 (jn (h z.1) (h z.2))
def Ml (xs ys : List α) : List (Option Hd) := (xs.zip ys).map fun z => mt (h z.1) (h z.2)
def Gl' : List α → List (Option Hd) → List α
  | x :: xs, some k :: os => C x k :: Gl' xs os
  | _, _ => []
/-- C puts a hold in, and leaves the key -/
structure Put : Prop where
  ph : ∀ x k, h (C x k) = k
  pc : ∀ x, C x (h x) = x
  pk : ∀ x k, key (C x k) = key x
  pe : ∀ x y k, key x = key y → C x k = C y k
variable {h C key} (P : Put h C key)
include P
theorem J_key : ∀ (xs ys : List α), xs.map key = ys.map key → (Jl h C xs ys).map key = xs.map key
  | [], [], _ => rfl
  | x :: xs, y :: ys, q => by
    simp only [List.map_cons, List.cons.injEq] at q
    show key (C x _) :: (Jl h C xs ys).map key = _
    rw [P.pk, J_key xs ys q.2]; rfl
  | [], y :: ys, q => by simp at q
  | x :: xs, [], q => by simp at q
theorem J_covl : ∀ (xs ys : List α), cv h (Jl h C xs ys) xs = true
  | [], _ => by simp [cv, Jl]
  | x :: xs, [] => by simp [cv, Jl]
  | x :: xs, y :: ys => by
    have ih := J_covl xs ys
    simp only [cv, Jl, List.zip_cons_cons, List.map_cons, List.all_cons, P.ph, Bool.and_eq_true] at ih ⊢
    exact ⟨jn_covl _ _, ih⟩
theorem J_covr : ∀ (xs ys : List α), cv h (Jl h C xs ys) ys = true
  | [], _ => by simp [cv, Jl]
  | x :: xs, [] => by simp [cv, Jl]
  | x :: xs, y :: ys => by
    have ih := J_covr xs ys
    simp only [cv, Jl, List.zip_cons_cons, List.map_cons, List.all_cons, P.ph, Bool.and_eq_true] at ih ⊢
    exact ⟨jn_covr _ _, ih⟩
theorem J_ok : ∀ (xs ys : List α), (∀ x ∈ xs, HOk (h x)) → (∀ y ∈ ys, HOk (h y)) → ∀ z ∈ Jl h C xs ys, HOk (h z) := fun xs ys h1 h2 z hz => by
  unfold Jl at hz
  obtain ⟨w, hw, rfl⟩ := List.mem_map.mp hz
  rw [P.ph]
  exact jn_ok (h1 _ (List.of_mem_zip (a := w.1) (b := w.2) hw).1) (h2 _ (List.of_mem_zip (a := w.1) (b := w.2) hw).2)
theorem cov_J : ∀ (ts xs ys : List α), cv h ts xs = true → cv h ts ys = true → cv h ts (Jl h C xs ys) = true
  | [], _, _, _, _ => by simp [cv]
  | t :: ts, [], _, _, _ => by simp [cv, Jl]
  | t :: ts, x :: xs, [], _, _ => by simp [cv, Jl]
  | t :: ts, x :: xs, y :: ys, q1, q2 => by
    have ih := cov_J ts xs ys
    simp only [cv, Jl, List.zip_cons_cons, List.map_cons, List.all_cons, P.ph, Bool.and_eq_true] at ih q1 q2 ⊢
    exact ⟨cov_jn q1.1 q2.1, ih q1.2 q2.2⟩
theorem J_cm : ∀ (xs ys : List α), (∀ x ∈ xs, HOk (h x)) → (∀ y ∈ ys, HOk (h y)) → xs.map key = ys.map key → Jl h C xs ys = Jl h C ys xs
  | [], [], _, _, _ => rfl
  | x :: xs, y :: ys, h1, h2, q => by
    simp only [List.map_cons, List.cons.injEq] at q
    have ih := J_cm xs ys (fun z hz => h1 z (List.mem_cons_of_mem _ hz)) (fun z hz => h2 z (List.mem_cons_of_mem _ hz)) q.2
    show C x _ :: Jl h C xs ys = C y _ :: Jl h C ys xs
    rw [ih, jn_cm (h1 x List.mem_cons_self) (h2 y List.mem_cons_self), P.pe x y _ q.1]
  | [], y :: ys, _, _, q => by simp at q
  | x :: xs, [], _, _, q => by simp at q
theorem J_self : ∀ (xs : List α), Jl h C xs xs = xs
  | [] => rfl
  | x :: xs => by
    show C x _ :: Jl h C xs xs = _
    rw [J_self xs, jn_self, P.pc]
omit P in
theorem M_cm : ∀ (xs ys : List α), (∀ x ∈ xs, HOk (h x)) → (∀ y ∈ ys, HOk (h y)) → Ml h xs ys = Ml h ys xs
  | [], ys, _, _ => by cases ys <;> rfl
  | x :: xs, [], _, _ => rfl
  | x :: xs, y :: ys, h1, h2 => by
    have ih := M_cm xs ys (fun z hz => h1 z (List.mem_cons_of_mem _ hz)) (fun z hz => h2 z (List.mem_cons_of_mem _ hz))
    show mt _ _ :: Ml h xs ys = mt _ _ :: Ml h ys xs
    rw [ih, mt_cm (h1 x List.mem_cons_self) (h2 y List.mem_cons_self)]
theorem G_cm : ∀ (xs ys : List α) (os : List (Option Hd)), xs.map key = ys.map key → Gl' C xs os = Gl' C ys os
  | [], [], _, _ => rfl
  | x :: xs, y :: ys, [], _ => rfl
  | x :: xs, y :: ys, none :: os, _ => rfl
  | x :: xs, y :: ys, some k :: os, q => by
    simp only [List.map_cons, List.cons.injEq] at q
    show C x k :: Gl' C xs os = C y k :: Gl' C ys os
    rw [G_cm xs ys os q.2, P.pe x y k q.1]
  | [], y :: ys, _, q => by simp at q
  | x :: xs, [], _, q => by simp at q
theorem G_self : ∀ (xs : List α), (∀ x ∈ xs, HOk (h x)) → (Ml h xs xs).any Option.isNone = false ∧ Gl' C xs (Ml h xs xs) = xs
  | [], _ => ⟨rfl, rfl⟩
  | x :: xs, h1 => by
    obtain ⟨a, b⟩ := G_self xs fun z hz => h1 z (List.mem_cons_of_mem _ hz)
    have e : Ml h (x :: xs) (x :: xs) = mt (h x) (h x) :: Ml h xs xs := rfl
    rw [e, mt_self (h1 x List.mem_cons_self)]
    refine ⟨by simpa using a, ?_⟩
    show C x (h x) :: Gl' C xs (Ml h xs xs) = _
    rw [b, P.pc]
theorem G_ok : ∀ (xs ys : List α), (∀ x ∈ xs, HOk (h x)) → (∀ y ∈ ys, HOk (h y)) → xs.map key = ys.map key → (Ml h xs ys).any Option.isNone = false →
    (Gl' C xs (Ml h xs ys)).map key = xs.map key ∧ (∀ z ∈ Gl' C xs (Ml h xs ys), HOk (h z)) ∧ cv h xs (Gl' C xs (Ml h xs ys)) = true ∧ cv h ys (Gl' C xs (Ml h xs ys)) = true
  | [], [], _, _, _, _ => ⟨rfl, by simp [Gl'], rfl, rfl⟩
  | x :: xs, y :: ys, h1, h2, q, n => by
    simp only [List.map_cons, List.cons.injEq] at q
    have e : Ml h (x :: xs) (y :: ys) = mt (h x) (h y) :: Ml h xs ys := rfl
    rw [e] at n ⊢
    cases c : mt (h x) (h y) with
    | none => rw [c] at n; simp at n
    | some k =>
      rw [c] at n
      obtain ⟨k1, k2, k3⟩ := mt_some (h1 x List.mem_cons_self) (h2 y List.mem_cons_self) c
      obtain ⟨a, b, d1, d2⟩ := G_ok xs ys (fun z hz => h1 z (List.mem_cons_of_mem _ hz)) (fun z hz => h2 z (List.mem_cons_of_mem _ hz)) q.2 (by simpa using n)
      refine ⟨?_, ?_, ?_, ?_⟩
      · show key (C x k) :: (Gl' C xs (Ml h xs ys)).map key = _
        rw [P.pk, a]; rfl
      · intro z hz
        rcases List.mem_cons.mp hz with rfl | hz
        · rw [P.ph]; exact k1
        · exact b z hz
      · simp only [cv, Gl', List.zip_cons_cons, List.all_cons, P.ph, Bool.and_eq_true] at d1 ⊢
        exact ⟨k2, d1⟩
      · simp only [cv, Gl', List.zip_cons_cons, List.all_cons, P.ph, Bool.and_eq_true] at d2 ⊢
        exact ⟨k3, d2⟩
  | [], y :: ys, _, _, q, _ => by simp at q
  | x :: xs, [], _, _, q, _ => by simp at q
theorem cov_G : ∀ (ts xs ys : List α), (∀ t ∈ ts, HOk (h t)) → (∀ x ∈ xs, HOk (h x)) → (∀ y ∈ ys, HOk (h y)) → ts.map key = xs.map key → xs.map key = ys.map key → cv h xs ts = true → cv h ys ts = true →
    (Ml h xs ys).any Option.isNone = false ∧ cv h (Gl' C xs (Ml h xs ys)) ts = true
  | ts, [], [], _, _, _, _, _, _, _ => ⟨rfl, by simp [cv, Gl']⟩
  | t :: ts, x :: xs, y :: ys, h0, h1, h2, q1, q2, c1, c2 => by
    simp only [List.map_cons, List.cons.injEq] at q1 q2
    simp only [cv, List.zip_cons_cons, List.all_cons, Bool.and_eq_true] at c1 c2
    obtain ⟨r, e, c⟩ := mt_cov (h1 x List.mem_cons_self) (h2 y List.mem_cons_self) (h0 t List.mem_cons_self) c1.1 c2.1
    obtain ⟨a, b⟩ := cov_G ts xs ys (fun z hz => h0 z (List.mem_cons_of_mem _ hz)) (fun z hz => h1 z (List.mem_cons_of_mem _ hz)) (fun z hz => h2 z (List.mem_cons_of_mem _ hz)) q1.2 q2.2 c1.2 c2.2
    have e0 : Ml h (x :: xs) (y :: ys) = mt (h x) (h y) :: Ml h xs ys := rfl
    rw [e0, e]
    refine ⟨by simpa using a, ?_⟩
    simp only [cv, Gl', List.zip_cons_cons, List.all_cons, P.ph, Bool.and_eq_true] at b ⊢
    exact ⟨c, b⟩
  | [], x :: xs, _, _, _, _, q, _, _, _ => by simp at q
  | _, [], y :: ys, _, _, _, _, q, _, _ => by simp at q
  | _, x :: xs, [], _, _, _, _, q, _, _ => by simp at q
end
end G73
end
section
set_option Elab.async false
set_option linter.all false
set_option maxRecDepth 100000
set_option maxHeartbeats 1000000
namespace G73
open PySem PySem.Spec PyProof.Rows L2 Mi

/-! ### promises that back -/
def CI' (_ : Hd) (k : Hd) : Hd := k
def CR' (r : Int × Hd) (k : Hd) : Int × Hd := (r.1, k)
theorem putI : Put (fun x : Hd => x) CI' (fun _ => ()) := ⟨fun _ _ => rfl, fun _ => rfl, fun _ _ => rfl, fun _ _ _ _ => rfl⟩
theorem putR : Put (fun r : Int × Hd => r.2) CR' (fun r => r.1) := ⟨fun _ _ => rfl, fun _ => rfl, fun _ _ => rfl, fun x y k h => Prod.ext h rfl⟩
theorem len_key {xs ys : List Hd} : xs.map (fun _ => ()) = ys.map (fun _ => ()) ↔ xs.length = ys.length := by
  constructor
  · intro h
    have := congrArg List.length h
    simpa using this
  · intro h
    rw [List.map_const', List.map_const', h]
theorem jI_eq (p q : Pm) : jI p q = Jl (fun x => x) CI' p.ins q.ins := rfl
theorem jR_eq (p q : Pm) : jRs p q = Jl (fun r => r.2) CR' p.rows q.rows := rfl
theorem mI_eq (p q : Pm) : mI p q = Ml (fun x => x) p.ins q.ins := rfl
theorem mR_eq (p q : Pm) : mR p q = Ml (fun r => r.2) p.rows q.rows := rfl
theorem got_eq : ∀ (xs ys : List Hd), (Ml (fun x => x) xs ys).any Option.isNone = false → got (Ml (fun x => x) xs ys) = Gl' CI' xs (Ml (fun x => x) xs ys)
  | [], ys, _ => by cases ys <;> rfl
  | x :: xs, [], _ => rfl
  | x :: xs, y :: ys, n => by
    have e : Ml (fun x : Hd => x) (x :: xs) (y :: ys) = mt x y :: Ml (fun x => x) xs ys := rfl
    rw [e] at n ⊢
    cases c : mt x y with
    | none => rw [c] at n; simp at n
    | some k =>
      rw [c] at n
      show k :: got _ = k :: Gl' CI' xs _
      rw [got_eq xs ys (by simpa using n)]
theorem fix_eq : ∀ (xs : List (Int × Hd)) (os : List (Option Hd)), fixR xs os = Gl' CR' xs os
  | [], os => by cases os <;> rfl
  | x :: xs, [] => rfl
  | x :: xs, none :: os => rfl
  | x :: xs, some k :: os => by
    show (x.1, k) :: fixR xs os = CR' x k :: Gl' CR' xs os
    rw [fix_eq xs os]; rfl
theorem covI_eq (p q : Pm) : covI p q = cv (fun x => x) p.ins q.ins := rfl
theorem covR_eq (p q : Pm) : covR p q = cv (fun r => r.2) p.rows q.rows := rfl
theorem al_iff {p q : Pm} : al p q = true ↔ p.ins.map (fun _ => ()) = q.ins.map (fun _ => ()) ∧ p.rows.map (fun r => r.1) = q.rows.map (fun r => r.1) := by
  unfold al heads
  rw [Bool.and_eq_true, decide_eq_true_eq, decide_eq_true_eq, len_key]
theorem bk_iff {e w : Pm} : bk e w = true ↔ al e w = true ∧ covI e w = true ∧ covR e w = true ∧ cov w.out e.out = true := by unfold bk; simp only [Bool.and_eq_true]
theorem al_sym {p q : Pm} (h : al p q = true) : al q p = true := by rw [al_iff] at *; exact ⟨h.1.symm, h.2.symm⟩
theorem al_tr {p q r : Pm} (h : al p q = true) (k : al q r = true) : al p r = true := by rw [al_iff] at *; exact ⟨h.1.trans k.1, h.2.trans k.2⟩
theorem POk.rh {p : Pm} (h : POk p) : ∀ r ∈ p.rows, HOk r.2 := fun r hr => (h.rows r hr).h
theorem rows_ok {p : Pm} (hp : POk p) {rs : List (Int × Hd)} (hk : rs.map (fun r => r.1) = p.rows.map (fun r => r.1)) (hh : ∀ r ∈ rs, HOk r.2) : ∀ r ∈ rs, ROk r := fun r hr => by
  have : r.1 ∈ p.rows.map (fun r => r.1) := by rw [← hk]; exact List.mem_map.mpr ⟨r, hr, rfl⟩
  obtain ⟨s, hs, e⟩ := List.mem_map.mp this
  have k := hp.rows s hs
  exact ⟨by rw [← e]; exact k.a, by rw [← e]; exact k.b, hh r hr⟩
theorem POk.mk' {p : Pm} (hp : POk p) {i : List Hd} {rs : List (Int × Hd)} {o : Hd} (h1 : i.map (fun _ => ()) = p.ins.map (fun _ => ())) (h2 : ∀ h ∈ i, HOk h) (h3 : rs.map (fun r => r.1) = p.rows.map (fun r => r.1)) (h4 : ∀ r ∈ rs, HOk r.2) (h5 : HOk o) : POk ⟨p.nm, i, rs, o⟩ :=
  ⟨hp.nm, by have := len_key.mp h1; show i.length ≤ 6; have := hp.il; omega, h2, by have := congrArg List.length h3; simp at this; show rs.length ≤ 3; have := hp.rl; omega, rows_ok hp h3 h4, h5⟩
/-- what backs both, backs each -/
theorem bb_ok {p q r : Pm} (hp : POk p) (hq : POk q) (h : al p q = true) (e : bb p q = some r) : POk r ∧ bk r p = true ∧ bk r q = true ∧ r.ins = jI p q := by
  obtain ⟨a1, a2⟩ := al_iff.mp h
  unfold bb at e
  cases c : mt p.out q.out with
  | none => rw [c] at e; cases e
  | some o =>
    rw [c] at e
    cases e
    obtain ⟨k1, k2, k3⟩ := mt_some hp.out hq.out c
    have i1 := J_key putI p.ins q.ins a1
    have r1 := J_key putR p.rows q.rows a2
    have ok : POk ⟨p.nm, jI p q, jRs p q, o⟩ := POk.mk' hp i1 (J_ok putI _ _ hp.ins hq.ins) r1 (J_ok putR _ _ hp.rh hq.rh) k1
    have al1 : al ⟨p.nm, jI p q, jRs p q, o⟩ p = true := al_iff.mpr ⟨i1, r1⟩
    exact ⟨ok, bk_iff.mpr ⟨al1, J_covl putI _ _, J_covl putR _ _, k2⟩, bk_iff.mpr ⟨al_tr al1 h, J_covr putI _ _, J_covr putR _ _, k3⟩, rfl⟩
theorem bd_ok {p q r : Pm} (hp : POk p) (hq : POk q) (h : al p q = true) (e : bd p q = some r) : POk r ∧ bk p r = true ∧ bk q r = true ∧ r.out = jn p.out q.out := by
  obtain ⟨a1, a2⟩ := al_iff.mp h
  unfold bd at e
  split at e
  · cases e
  · rename_i n
    simp only [Bool.or_eq_true, not_or, Bool.not_eq_true] at n
    obtain ⟨n1, n2⟩ := n
    cases e
    obtain ⟨i1, i2, i3, i4⟩ := G_ok putI p.ins q.ins hp.ins hq.ins a1 n1
    obtain ⟨r1, r2, r3, r4⟩ := G_ok putR p.rows q.rows hp.rh hq.rh a2 n2
    have ei : got (mI p q) = Gl' CI' p.ins (Ml (fun x => x) p.ins q.ins) := got_eq _ _ n1
    have er : fixR p.rows (mR p q) = Gl' CR' p.rows (Ml (fun r => r.2) p.rows q.rows) := fix_eq _ _
    rw [ei, er]
    have ok := POk.mk' hp i1 i2 r1 r2 (jn_ok hp.out hq.out)
    have al1 : al p ⟨p.nm, Gl' CI' p.ins (Ml (fun x => x) p.ins q.ins), Gl' CR' p.rows (Ml (fun r => r.2) p.rows q.rows), jn p.out q.out⟩ = true := al_iff.mpr ⟨i1.symm, r1.symm⟩
    exact ⟨ok, bk_iff.mpr ⟨al1, i3, r3, jn_covl _ _⟩, bk_iff.mpr ⟨al_tr (al_sym h) al1, i4, r4, jn_covr _ _⟩, rfl⟩
/-- what backs both backs what backs them -/
theorem bb_top {p q t : Pm} (hp : POk p) (hq : POk q) (ht : POk t) (h : al p q = true) (b1 : bk t p = true) (b2 : bk t q = true) : ∃ r, bb p q = some r ∧ bk t r = true := by
  obtain ⟨a1, i1, r1, o1⟩ := bk_iff.mp b1
  obtain ⟨a2, i2, r2, o2⟩ := bk_iff.mp b2
  obtain ⟨x1, x2⟩ := al_iff.mp h
  obtain ⟨o, eo, co⟩ := mt_cov hp.out hq.out ht.out o1 o2
  refine ⟨⟨p.nm, jI p q, jRs p q, o⟩, by unfold bb; rw [eo], bk_iff.mpr ⟨?_, cov_J putI t.ins p.ins q.ins i1 i2, cov_J putR t.rows p.rows q.rows r1 r2, co⟩⟩
  obtain ⟨y1, y2⟩ := al_iff.mp a1
  exact al_iff.mpr ⟨y1.trans (J_key putI p.ins q.ins x1).symm, y2.trans (J_key putR p.rows q.rows x2).symm⟩
theorem bd_top {p q t : Pm} (hp : POk p) (hq : POk q) (ht : POk t) (h : al p q = true) (b1 : bk p t = true) (b2 : bk q t = true) : ∃ r, bd p q = some r ∧ bk r t = true := by
  obtain ⟨a1, i1, r1, o1⟩ := bk_iff.mp b1
  obtain ⟨a2, i2, r2, o2⟩ := bk_iff.mp b2
  obtain ⟨x1, x2⟩ := al_iff.mp h
  obtain ⟨y1, y2⟩ := al_iff.mp a1
  obtain ⟨n1, c1⟩ := cov_G putI t.ins p.ins q.ins ht.ins hp.ins hq.ins y1.symm x1 i1 i2
  obtain ⟨n2, c2⟩ := cov_G putR t.rows p.rows q.rows ht.rh hp.rh hq.rh y2.symm x2 r1 r2
  have g1 := G_ok putI p.ins q.ins hp.ins hq.ins x1 n1
  have g2 := G_ok putR p.rows q.rows hp.rh hq.rh x2 n2
  have ei : got (mI p q) = Gl' CI' p.ins (Ml (fun x => x) p.ins q.ins) := got_eq _ _ n1
  have er : fixR p.rows (mR p q) = Gl' CR' p.rows (Ml (fun r => r.2) p.rows q.rows) := fix_eq _ _
  refine ⟨_, by unfold bd; rw [mI_eq, mR_eq, n1, n2]; rfl, bk_iff.mpr ⟨al_iff.mpr ⟨?_, ?_⟩, ?_, ?_, cov_jn o1 o2⟩⟩
  · rw [← mI_eq, ei]; exact g1.1.trans y1
  · rw [← mR_eq, er]; exact g2.1.trans y2
  · rw [covI_eq, ← mI_eq, ei]; exact c1
  · rw [covR_eq, ← mR_eq, er]; exact c2
/-- turned round -/
theorem bb_turn {p q : Pm} (hp : POk p) (hq : POk q) (h : al p q = true) : bb q p = (bb p q).map fun r => { r with nm := q.nm } := by
  obtain ⟨a1, a2⟩ := al_iff.mp h
  unfold bb
  rw [mt_cm hq.out hp.out, jI_eq, jR_eq, jI_eq, jR_eq, J_cm putI q.ins p.ins hq.ins hp.ins a1.symm, J_cm putR q.rows p.rows hq.rh hp.rh a2.symm]
  cases mt p.out q.out <;> rfl
theorem bd_turn {p q : Pm} (hp : POk p) (hq : POk q) (h : al p q = true) : bd q p = (bd p q).map fun r => { r with nm := q.nm } := by
  obtain ⟨a1, a2⟩ := al_iff.mp h
  unfold bd
  have e1 : mI q p = mI p q := M_cm q.ins p.ins hq.ins hp.ins
  have e2 : mR q p = mR p q := M_cm q.rows p.rows hq.rh hp.rh
  rw [e1, e2, fix_eq, fix_eq, G_cm putR q.rows p.rows _ a2.symm, jn_cm hq.out hp.out]
  split <;> rfl
theorem bb_self {p : Pm} (hp : POk p) : bb p p = some p := by
  unfold bb
  rw [mt_self hp.out, jI_eq, jR_eq, J_self putI, J_self putR]
theorem bd_self {p : Pm} (hp : POk p) : bd p p = some p := by
  obtain ⟨n1, g1⟩ := G_self putI p.ins hp.ins
  obtain ⟨n2, g2⟩ := G_self putR p.rows hp.rh
  have ei : got (mI p p) = Gl' CI' p.ins (Ml (fun x => x) p.ins p.ins) := got_eq _ _ n1
  unfold bd
  rw [ei, fix_eq, mI_eq, mR_eq, n1, n2, g1, g2, jn_self]
  rfl
theorem al_self (p : Pm) : al p p = true := al_iff.mpr ⟨rfl, rfl⟩
end G73
end
section
set_option Elab.async false
set_option linter.all false
set_option maxRecDepth 100000
set_option maxHeartbeats 1000000
namespace G73
open PySem PySem.Spec PyProof.Rows L2 Mi

/-! ### what is shown -/
structure Shw (n : Nat) (d : PyData) : Prop where
  s : d.showable = true
  o : PyData.strOk d.shown = true
  l : d.shown.length ≤ n
theorem Shw.mono {m n : Nat} {d : PyData} (h : Shw m d) (k : m ≤ n) : Shw n d := ⟨h.s, h.o, Nat.le_trans h.l k⟩
theorem ok_app {a b : Str} (h : PyData.strOk a = true) (k : PyData.strOk b = true) : PyData.strOk (a ++ b) = true := by
  unfold PyData.strOk at *
  show (a.cps ++ b.cps).all _ = true
  rw [Array.all_append, h, k]
  rfl
theorem ok_join {sep : Str} (hs : PyData.strOk sep = true) : ∀ ts : List Str, (∀ t ∈ ts, PyData.strOk t = true) → PyData.strOk (Str.join sep ts) = true
  | [], _ => by show PyData.strOk Str.empty = true; decide +kernel
  | [t], h => h t List.mem_cons_self
  | t :: u :: r, h => by
    show PyData.strOk (t ++ sep ++ Str.join sep (u :: r)) = true
    exact ok_app (ok_app (h t List.mem_cons_self) hs) (ok_join hs (u :: r) (fun y hy => h y (List.mem_cons_of_mem _ hy)))
theorem ok_from : ∀ (ts : List Str) (k : Nat) (acc : Str), PyData.strOk acc = true → (∀ t ∈ ts, PyData.strOk t = true) → PyData.strOk (textFrom k acc ts) = true
  | [], k, acc, h, _ => h
  | t :: r, k, acc, h, ht => by
    show PyData.strOk (textFrom (k + 1) (acc ++ (if k > 0 then ", " else "" : String) ++ t) r) = true
    refine ok_from r (k + 1) _ (ok_app (ok_app h ?_) (ht t List.mem_cons_self)) (fun y hy => ht y (List.mem_cons_of_mem _ hy))
    split <;> decide +kernel
theorem ok_tup {ts : List Str} (h : ∀ t ∈ ts, PyData.strOk t = true) : PyData.strOk (tupleText ts) = true := by
  unfold tupleText
  refine ok_app (ok_app (by decide +kernel) (ok_join (by decide +kernel) ts h)) ?_
  split <;> decide +kernel
theorem ok_list {ts : List Str} (h : ∀ t ∈ ts, PyData.strOk t = true) : PyData.strOk (listText ts) = true := ok_app (ok_from ts 0 _ (by decide +kernel) h) (by decide +kernel)
theorem shw_int {i : Int} (h : i.natAbs ≤ 1000) : Shw 13 (.int i) := by
  refine ⟨?_, ?_, ?_⟩
  · have : i.natAbs < 2 ^ 1920 := Nat.lt_of_le_of_lt h (by decide +kernel)
    simp only [PyData.showable, decide_eq_true_eq]
    by_cases h0 : i.natAbs = 0
    · rw [h0]; decide +kernel
    · exact (Nat.log2_lt h0).mpr this
  · unfold PyData.strOk
    rw [Array.all_eq_true_iff_forall_mem]
    intro c hc
    simp only [decide_eq_true_eq]
    by_cases q : c < 0x110000
    · exact q
    · exact absurd (by simpa using hc) (shown_int_free' (k := c) ⟨by omega, by omega⟩ i)
  · exact PyData.shown_int_le (Nat.lt_of_le_of_lt h (by decide))
theorem shw_all {n : Nat} : ∀ xs : List PyData, (∀ x ∈ xs, Shw n x) → PyData.showableAll xs = true ∧ (∀ t ∈ PyData.shownAll xs, PyData.strOk t = true) ∧ ((PyData.shownAll xs).map (·.length)).sum ≤ n * xs.length ∧ (PyData.shownAll xs).length = xs.length
  | [], _ => ⟨rfl, (fun t h => by rw [PyData.shownAll] at h; cases h), Nat.zero_le _, rfl⟩
  | x :: xs, h => by
    obtain ⟨a, b, c, d⟩ := shw_all xs (fun y hy => h y (List.mem_cons_of_mem _ hy))
    have k := h x List.mem_cons_self
    refine ⟨?_, ?_, ?_, ?_⟩
    · rw [PyData.showableAll, k.s, a]; rfl
    · intro t ht
      rw [PyData.shownAll] at ht
      rcases List.mem_cons.mp ht with rfl | ht
      · exact k.o
      · exact b t ht
    · rw [PyData.shownAll, List.map_cons, List.sum_cons, List.length_cons, Nat.mul_succ]
      have := k.l
      show x.shown.length + _ ≤ _
      omega
    · rw [PyData.shownAll, List.length_cons, List.length_cons, d]
theorem shw_tup {n m : Nat} {xs : List PyData} (h : ∀ x ∈ xs, Shw n x) (hl : xs.length ≤ m) : Shw ((n + 2) * m + 3) (.tuple xs) := by
  obtain ⟨a, b, c, d⟩ := shw_all xs h
  refine ⟨by rw [PyData.showable]; exact a, by rw [PyData.shown]; exact ok_tup b, ?_⟩
  rw [PyData.shown]
  have e := tupleText_len_le (PyData.shownAll xs)
  have f : n * xs.length ≤ n * m := Nat.mul_le_mul (Nat.le_refl _) hl
  rw [Nat.add_mul]
  omega
theorem shw_list {n m : Nat} {xs : List PyData} (h : ∀ x ∈ xs, Shw n x) (hl : xs.length ≤ m) : Shw ((n + 2) * m + 3) (.list xs) := by
  obtain ⟨a, b, c, d⟩ := shw_all xs h
  refine ⟨by rw [PyData.showable]; exact a, by rw [PyData.shown]; exact ok_list b, ?_⟩
  rw [PyData.shown]
  have e := listText_len_le (PyData.shownAll xs)
  have f : n * xs.length ≤ n * m := Nat.mul_le_mul (Nat.le_refl _) hl
  rw [Nat.add_mul]
  omega
theorem shw_q {x : Fr} (h : QOk x) : Shw 33 (dQ x) := shw_tup (n := 13) (m := 2) (by
  have d := h.d
  have p := h.p
  have := h.n
  intro y hy
  simp only [List.mem_cons, List.not_mem_nil, or_false] at hy
  rcases hy with rfl | rfl <;> exact shw_int (by omega)) (Nat.le_refl 2)
theorem shw_h {h : Hd} (k : HOk h) : Shw 108 (dH h) := shw_tup (n := 33) (m := 3) (by
  intro y hy
  simp only [List.mem_cons, List.not_mem_nil, or_false] at hy
  rcases hy with rfl | rfl | rfl
  · exact shw_q k.lo
  · exact shw_q k.hi
  · exact shw_q k.off) (Nat.le_refl 3)
theorem shw_r {r : Int × Hd} (k : ROk r) : Shw 223 (dR r) := shw_tup (n := 108) (m := 2) (by
  have := k.a
  have := k.b
  intro y hy
  simp only [List.mem_cons, List.not_mem_nil, or_false] at hy
  rcases hy with rfl | rfl
  · exact (shw_int (by omega)).mono (by decide)
  · exact shw_h k.h) (Nat.le_refl 2)
theorem shw_map {α : Type} {d : α → PyData} {P : α → Prop} {n : Nat} (f : ∀ x, P x → Shw n (d x)) {xs : List α} (h : ∀ x ∈ xs, P x) : ∀ y ∈ xs.map d, Shw n y := fun y hy => by
  obtain ⟨x, hx, rfl⟩ := List.mem_map.mp hy
  exact f x (h x hx)
theorem shw_nm {n : Str} (h : n ∈ (["a", "bb", "proc", "b"] : List Str)) : Shw 10 (.str n) := by
  simp only [List.mem_cons, List.not_mem_nil, or_false] at h
  rcases h with rfl | rfl | rfl | rfl <;> exact ⟨rfl, by decide +kernel, by decide +kernel⟩
theorem shw_p {p : Pm} (h : POk p) : Shw 2723 (dP p) := shw_tup (n := 678) (m := 4) (by
  intro y hy
  simp only [List.mem_cons, List.not_mem_nil, or_false] at hy
  rcases hy with rfl | rfl | rfl | rfl
  · exact (shw_nm h.nm).mono (by decide)
  · exact (shw_tup (n := 108) (m := 6) (shw_map (fun x k => shw_h k) h.ins) (by rw [List.length_map]; exact h.il)).mono (by decide)
  · exact (shw_tup (n := 223) (m := 3) (shw_map (fun x k => shw_r k) h.rows) (by rw [List.length_map]; exact h.rl)).mono (by decide)
  · exact (shw_h h.out).mono (by decide)) (Nat.le_refl 4)
def dOP : Option Pm → PyData
  | none => .none
  | some p => dP p
def OOk : Option Pm → Prop
  | none => True
  | some p => POk p
theorem shw_op {o : Option Pm} (h : OOk o) : Shw 2723 (dOP o) := by
  cases o with
  | none => exact ⟨rfl, by decide +kernel, by decide +kernel⟩
  | some p => exact shw_p h
theorem toD_op (o : Option Pm) : toD (eOP o) = some (dOP o) := by
  cases o with
  | none => rfl
  | some p => exact toD_p p
theorem dep_p (p : Pm) : (dP p).depth ≤ 5 := by
  have a := dep_map dep_h p.ins
  have b := dep_map dep_r p.rows
  have c := dep_h p.out
  simp [dP, PyData.depth, PyData.depthAll]
  omega
theorem dep_op (o : Option Pm) : (dOP o).depth ≤ 5 := by
  cases o with
  | none => exact Nat.zero_le _
  | some p => exact dep_p p
theorem e_repr {a b : Option Pm} (ha : OOk a) (hb : OOk b) : ∃ t, (∀ S, fRepr [.nl [eOP a, eOP b]] S = .ok (.str t) S) ∧ PyData.strOk t = true := by
  have h : Shw 5453 (.list [dOP a, dOP b]) := shw_list (n := 2723) (m := 2) (by
    intro y hy
    simp only [List.mem_cons, List.not_mem_nil, or_false] at hy
    rcases hy with rfl | rfl
    · exact shw_op ha
    · exact shw_op hb) (Nat.le_refl 2)
  refine ⟨_, fun S => ?_, h.o⟩
  have e : toDS (.nl [eOP a, eOP b]) S = some (.list [dOP a, dOP b]) := by
    show toD _ = _
    rw [toD, toDL, toD_op, toDL, toD_op, toDL]
    rfl
  have d1 := dep_op a
  have d2 := dep_op b
  have dd : (PyData.list [dOP a, dOP b]).depth ≤ 64 := by simp [PyData.depth, PyData.depthAll]; omega
  show (match toDS (.nl [eOP a, eOP b]) S with | some d => if d.showable = true ∧ d.depth ≤ 64 ∧ d.shown.length ≤ lim then Res.ok (PV.str d.shown) S else .bad | none => .bad) = _
  rw [e]
  have l : (PyData.list [dOP a, dOP b]).shown.length ≤ lim := Nat.le_trans h.l (by decide)
  simp only [h.s, dd, l, and_self, if_true]
theorem e_eqs {t : Str} {S : Sto} (h : PyData.strOk t = true) : fEq true (.str t) (.str t) S = .ok (.bl false) S := by
  have s : SeqAt.shaped (.str t) = true := by
    unfold SeqAt.shaped
    rw [PyData.canLay0, h]
    rfl
  rw [eq_dat (d := .str t) (e := .str t) rfl rfl s s]
  simp [PyData.eqv]
end G73
end
section
set_option Elab.async false
set_option linter.all false
set_option maxRecDepth 100000
set_option maxHeartbeats 2000000
namespace G73
open PySem PySem.Spec PyProof.Rows L2 Mi

/-! ### a pair is right -/
def P1 : EnP → Sto → SR := (dSet 2 (dLst false (dCons (dCB F_law_both_L (dCons (dV 0) (dCons (dV 1) (dCons (dC (.bl true)) (dNil))))) (dCons (dCB F_law_both_L (dCons (dV 0) (dCons (dV 1) (dCons (dC (.bl false)) (dNil))))) (dNil)))))
def P2 : EnP → Sto → SR := (dSet 3 (dLst false (dCons (dCB F_backing_both (dCons (dV 0) (dCons (dV 1) (dNil)))) (dCons (dCB F_backed_by_both (dCons (dV 0) (dCons (dV 1) (dNil)))) (dNil)))))
def P3 : EnP → Sto → SR := (dIfS (dB (dBin (fEq true) (dCB fRepr (dCons (dV 3) (dNil))) (dCB fRepr (dCons (dV 2) (dNil))))) (dRet (dC (.bl false))) (dPass))
def P4 : EnP → Sto → SR := (dSet 4 (dLst false (dCons (dCB F_backing_both (dCons (dV 1) (dCons (dV 0) (dNil)))) (dCons (dCB F_backed_by_both (dCons (dV 1) (dCons (dV 0) (dNil)))) (dNil)))))
def P5b : EnP → Sto → SR := (dIfS (bOr (dB (dBin (fEq true) (dBin (fIsN false) (dV 5) (dC .non)) (dBin (fIsN false) (dV 6) (dC .non)))) (bAnd (dB (dBin (fIsN true) (dV 5) (dC .non))) (dB (dBin (fEq true) (dSl false (dV 5) (dPart (dC (.int 1))) (dNoPart)) (dSl false (dV 6) (dPart (dC (.int 1))) (dNoPart)))))) (dRet (dC (.bl false))) (dPass))
def P5 : EnP → Sto → SR := (dFor (iZip2 (dCons (dV 3) (dCons (dV 4) (dNil)))) (gTp 2 (gsCons (gNm 5) (gsCons (gNm 6) (gsNil)))) (dIfS (bOr (dB (dBin (fEq true) (dBin (fIsN false) (dV 5) (dC .non)) (dBin (fIsN false) (dV 6) (dC .non)))) (bAnd (dB (dBin (fIsN true) (dV 5) (dC .non))) (dB (dBin (fEq true) (dSl false (dV 5) (dPart (dC (.int 1))) (dNoPart)) (dSl false (dV 6) (dPart (dC (.int 1))) (dNoPart)))))) (dRet (dC (.bl false))) (dPass)))
def P6 : EnP → Sto → SR := (dIfS (dB (dBin (fIsN true) (dBin fIx (dV 2) (dC (.int 0))) (dC .non))) (dSeq (dIfS (bOr (dB (dBin (fIs true) (dCB F_is_promise (dCons (dBin fIx (dV 2) (dC (.int 0))) (dNil))) (dC (.bl true)))) (bOr (bNot (dTru (dCB F_backs (dCons (dBin fIx (dV 2) (dC (.int 0))) (dCons (dV 0) (dNil)))))) (bNot (dTru (dCB F_backs (dCons (dBin fIx (dV 2) (dC (.int 0))) (dCons (dV 1) (dNil)))))))) (dRet (dC (.bl false))) (dPass)) (dIfS (dB (dBin (fEq true) (dLc false (iSeq (dBin fIx (dBin fIx (dV 2) (dC (.int 0))) (dC (.int 1)))) (cNm 7) (dYes) (dV 7) [7]) (dLc false (iZip2 (dCons (dBin fIx (dV 0) (dC (.int 1))) (dCons (dBin fIx (dV 1) (dC (.int 1))) (dNil)))) (cTup 2 (cCons (cNm 8) (cCons (cNm 9) (cNil)))) (dYes) (dCB F_joined (dCons (dV 8) (dCons (dV 9) (dNil)))) [8, 9]))) (dRet (dC (.bl false))) (dPass))) (dPass))
def P7 : EnP → Sto → SR := (dIfS (dB (dBin (fIsN true) (dBin fIx (dV 2) (dC (.int 1))) (dC .non))) (dSeq (dIfS (bOr (dB (dBin (fIs true) (dCB F_is_promise (dCons (dBin fIx (dV 2) (dC (.int 1))) (dNil))) (dC (.bl true)))) (bOr (bNot (dTru (dCB F_backs (dCons (dV 0) (dCons (dBin fIx (dV 2) (dC (.int 1))) (dNil)))))) (bNot (dTru (dCB F_backs (dCons (dV 1) (dCons (dBin fIx (dV 2) (dC (.int 1))) (dNil)))))))) (dRet (dC (.bl false))) (dPass)) (dIfS (dB (dBin (fEq true) (dBin fIx (dBin fIx (dV 2) (dC (.int 1))) (dC (.int 3))) (dCB F_joined (dCons (dBin fIx (dV 0) (dC (.int 3))) (dCons (dBin fIx (dV 1) (dC (.int 3))) (dNil)))))) (dRet (dC (.bl false))) (dPass))) (dPass))
def P8 : EnP → Sto → SR := (dRet (dAnd (dBin (fEq false) (dCB F_backing_both (dCons (dV 0) (dCons (dV 0) (dNil)))) (dV 0)) (dBin (fEq false) (dCB F_backed_by_both (dCons (dV 0) (dCons (dV 0) (dNil)))) (dV 0))))
theorem pr_parts : d_law_pair_right_L = dSeq P1 (dSeq P2 (dSeq P3 (dSeq P4 (dSeq P5 (dSeq P6 (dSeq P7 P8)))))) := rfl
theorem P5_is : P5 = dFor (iZip2 (dCons (dV 3) (dCons (dV 4) (dNil)))) (gTp 2 (gsCons (gNm 5) (gsCons (gNm 6) (gsNil)))) P5b := rfl
theorem eq_bl {neg a b : Bool} {S : Sto} : fEq neg (.bl a) (.bl b) S = .ok (.bl (if neg = true then !(a == b) else a == b)) S := by
  rw [eq_dat (d := .bool a) (e := .bool b) rfl rfl (by cases a <;> decide) (by cases b <;> decide)]
  cases neg <;> cases a <;> cases b <;> rfl
theorem isN_p (p : Pm) : isNon (eP p) = false := rfl
theorem isN_n : isNon .non = true := rfl
theorem eq_p {p q : Pm} {neg : Bool} {S : Sto} (hp : POk p) (hq : POk q) : fEq neg (eP p) (eP q) S = .ok (.bl (if neg = true then !decide (p = q) else decide (p = q))) S := by
  have a : toDS (eP p) S = some (dP p) := toD_p p
  have b : toDS (eP q) S = some (dP q) := toD_p q
  rw [eq_dat a b (shp_p hp) (shp_p hq), eqv_p]
theorem eq_h {a b : Hd} {neg : Bool} {S : Sto} : fEq neg (eH a) (eH b) S = .ok (.bl (if neg = true then !decide (a = b) else decide (a = b))) S := by
  have x : toDS (eH a) S = some (dH a) := toD_h a
  have y : toDS (eH b) S = some (dH b) := toD_h b
  rw [eq_dat x y (shp_h a) (shp_h b), eqv_h]
theorem eq_ins {xs ys : List Hd} {neg : Bool} {S : Sto} : fEq neg (.nl (xs.map eH)) (.nl (ys.map eH)) S = .ok (.bl (if neg = true then !decide (xs = ys) else decide (xs = ys))) S := by
  have t : ∀ zs : List Hd, toDS (.nl (zs.map eH)) S = some (.list (zs.map dH)) := fun zs => by
    show toD _ = _
    rw [toD, toDL_map toD_h]
    rfl
  have s : ∀ zs : List Hd, SeqAt.shaped (.list (zs.map dH)) = true := fun zs => shp_l lay_h dep_h (by decide) zs
  rw [eq_dat (t xs) (t ys) (s _) (s _)]
  have q : PyData.eqv (.list (xs.map dH)) (.list (ys.map dH)) = decide (xs = ys) := by
    rw [PyData.eqv]
    exact eqvAll_map eqv_h _ _
  rw [q]
def eT (i : List Hd) (r : List (Int × Hd)) (o : Hd) : PV := .tup [.tup (i.map eH), .tup (r.map eR), eH o]
theorem cut_p (p : Pm) (S : Sto) : fSl false (eP p) (some 1) none S = .ok (eT p.ins p.rows p.out) S := rfl
theorem eq_t {i j : List Hd} {r s : List (Int × Hd)} {o k : Hd} {neg : Bool} {S : Sto} : fEq neg (eT i r o) (eT j s k) S = .ok (.bl (if neg = true then !decide (i = j ∧ r = s ∧ o = k) else decide (i = j ∧ r = s ∧ o = k))) S := by
  have t : ∀ (i : List Hd) (r : List (Int × Hd)) (o : Hd), toDS (eT i r o) S = some (.tuple [.tuple (i.map dH), .tuple (r.map dR), dH o]) := fun i r o => by
    have h : toDL [.tup (i.map eH), .tup (r.map eR), eH o] = some [.tuple (i.map dH), .tuple (r.map dR), dH o] := by
      simp [toDL, toDL_map toD_h, toDL_map toD_r, toD_h, toD]
    show (toDL [.tup (i.map eH), .tup (r.map eR), eH o]).map PyData.tuple = _
    rw [h]
    rfl
  rw [eq_dat (t _ _ _) (t _ _ _) (shp_tail _ _ _) (shp_tail _ _ _)]
  have q : PyData.eqv (.tuple [.tuple (i.map dH), .tuple (r.map dR), dH o]) (.tuple [.tuple (j.map dH), .tuple (s.map dR), dH k]) = decide (i = j ∧ r = s ∧ o = k) := by
    by_cases h1 : i = j <;> by_cases h2 : r = s <;> by_cases h3 : o = k <;> simp [PyData.eqv, PyData.eqvAll, eqv_h, eqvAll_map eqv_h, eqvAll_map eqv_r, h1, h2, h3]
  rw [q]
theorem two_t (p q : Pm) : two true p q = bb p q := rfl
theorem two_f (p q : Pm) : two false p q = bd p q := rfl
theorem q_P1 {p q : Pm} (hp : POk p) (hq : POk q) (S : Sto) : ∃ S', P1 (startP 10 [eP p, eP q]) S = .nx [some (eP p), some (eP q), some (.nl [eOP (bb p q), eOP (bd p q)]), none, none, none, none, none, none, none] S' ∧ ∃ r, S' = S ++ r := by
  obtain ⟨l1, l2, e1⟩ := e_law_both true S hp hq
  obtain ⟨l3, l4, e2⟩ := e_law_both false (S ++ [SO.lst l1, SO.lst l2]) hp hq
  rw [two_t] at e1
  rw [two_f] at e2
  refine ⟨S ++ [SO.lst l1, SO.lst l2] ++ [SO.lst l3, SO.lst l4], ?_, [SO.lst l1, SO.lst l2] ++ [SO.lst l3, SO.lst l4], List.append_assoc _ _ _⟩
  simp [P1, runF, startP, endOf, dRet, dRetN, dIf, dIfS, dB, dBin, dUn, dV, dC, sE, asB, dSeq, dSet, dPar, dPar3, dAsg, dExpr, dAnd, dOr, dNot, bAnd, bOr, bNot, dTru, dCB, dCons, dNil, dTup, dLst, dChain, dPass, fCmpI, fIsN, gTp, gsCons, gsNil, gNm, mkTup, dSl, dPart, dNoPart, lim, iLt, iLe, iGt, iGe, dLst, mkLst, e1, e2]
theorem q_P2 {p q : Pm} (hp : POk p) (hq : POk q) (h : al p q = true) (d : PV) (S : Sto) : P2 [some (eP p), some (eP q), some d, none, none, none, none, none, none, none] S = .nx [some (eP p), some (eP q), some d, some (.nl [eOP (bb p q), eOP (bd p q)]), none, none, none, none, none, none] S := by
  have e1 := fun S => e_backing (S := S) hp hq h
  have e2 := fun S => e_backed (S := S) hp hq h
  simp [P2, runF, startP, endOf, dRet, dRetN, dIf, dIfS, dB, dBin, dUn, dV, dC, sE, asB, dSeq, dSet, dPar, dPar3, dAsg, dExpr, dAnd, dOr, dNot, bAnd, bOr, bNot, dTru, dCB, dCons, dNil, dTup, dLst, dChain, dPass, fCmpI, fIsN, gTp, gsCons, gsNil, gNm, mkTup, dSl, dPart, dNoPart, lim, iLt, iLe, iGt, iGe, dLst, mkLst, e1, e2]
theorem q_P4 {p q : Pm} (hp : POk p) (hq : POk q) (h : al p q = true) (d e : PV) (S : Sto) : P4 [some (eP p), some (eP q), some d, some e, none, none, none, none, none, none] S = .nx [some (eP p), some (eP q), some d, some e, some (.nl [eOP (bb q p), eOP (bd q p)]), none, none, none, none, none] S := by
  have e1 := fun S => e_backing (S := S) hq hp (al_sym h)
  have e2 := fun S => e_backed (S := S) hq hp (al_sym h)
  simp [P4, runF, startP, endOf, dRet, dRetN, dIf, dIfS, dB, dBin, dUn, dV, dC, sE, asB, dSeq, dSet, dPar, dPar3, dAsg, dExpr, dAnd, dOr, dNot, bAnd, bOr, bNot, dTru, dCB, dCons, dNil, dTup, dLst, dChain, dPass, fCmpI, fIsN, gTp, gsCons, gsNil, gNm, mkTup, dSl, dPart, dNoPart, lim, iLt, iLe, iGt, iGe, dLst, mkLst, e1, e2]
theorem q_P3 {a b : Option Pm} (ha : OOk a) (hb : OOk b) (x y : Option PV) (S : Sto) : P3 [x, y, some (.nl [eOP a, eOP b]), some (.nl [eOP a, eOP b]), none, none, none, none, none, none] S = .nx [x, y, some (.nl [eOP a, eOP b]), some (.nl [eOP a, eOP b]), none, none, none, none, none, none] S := by
  obtain ⟨t, e, k⟩ := e_repr ha hb
  have q := fun S => e_eqs (S := S) k
  simp [P3, runF, startP, endOf, dRet, dRetN, dIf, dIfS, dB, dBin, dUn, dV, dC, sE, asB, dSeq, dSet, dPar, dPar3, dAsg, dExpr, dAnd, dOr, dNot, bAnd, bOr, bNot, dTru, dCB, dCons, dNil, dTup, dLst, dChain, dPass, fCmpI, fIsN, gTp, gsCons, gsNil, gNm, mkTup, dSl, dPart, dNoPart, lim, iLt, iLe, iGt, iGe, e, q]
theorem q_P5b (o : Option Pm) (n : Str) (x y d e t : Option PV) (S : Sto) :
    P5b [x, y, d, e, t, some (eOP o), some (eOP (o.map fun r => { r with nm := n })), none, none, none] S = .nx [x, y, d, e, t, some (eOP o), some (eOP (o.map fun r => { r with nm := n })), none, none, none] S := by
  cases o <;> simp [P5b, runF, startP, endOf, dRet, dRetN, dIf, dIfS, dB, dBin, dUn, dV, dC, sE, asB, dSeq, dSet, dPar, dPar3, dAsg, dExpr, dAnd, dOr, dNot, bAnd, bOr, bNot, dTru, dCB, dCons, dNil, dTup, dLst, dChain, dPass, fCmpI, fIsN, gTp, gsCons, gsNil, gNm, mkTup, dSl, dPart, dNoPart, lim, iLt, iLe, iGt, iGe, eOP, isN_p, isN_n, eq_bl, cut_p, eq_t]
theorem q_P5 (a b : Option Pm) (n : Str) (x y d : Option PV) (S : Sto) :
    ∃ u v, P5 [x, y, d, some (.nl [eOP a, eOP b]), some (.nl [eOP (a.map fun r => { r with nm := n }), eOP (b.map fun r => { r with nm := n })]), none, none, none, none, none] S = .nx [x, y, d, some (.nl [eOP a, eOP b]), some (.nl [eOP (a.map fun r => { r with nm := n }), eOP (b.map fun r => { r with nm := n })]), u, v, none, none, none] S := by
  refine ⟨some (eOP b), some (eOP (b.map fun r => { r with nm := n })), ?_⟩
  rw [P5_is]
  simp [dFor, iZip2, srcP, zipP, runF, startP, endOf, dRet, dRetN, dIf, dIfS, dB, dBin, dUn, dV, dC, sE, asB, dSeq, dSet, dPar, dPar3, dAsg, dExpr, dAnd, dOr, dNot, bAnd, bOr, bNot, dTru, dCB, dCons, dNil, dTup, dLst, dChain, dPass, fCmpI, fIsN, gTp, gsCons, gsNil, gNm, mkTup, dSl, dPart, dNoPart, lim, iLt, iLe, iGt, iGe, forP, q_P5b]
theorem q_P6 {p q : Pm} (hp : POk p) (hq : POk q) (h : al p q = true) (b : PV) (s t u v : Option PV) (S : Sto) :
    P6 [some (eP p), some (eP q), some (.nl [eOP (bb p q), b]), s, t, u, v, none, none, none] S = .nx [some (eP p), some (eP q), some (.nl [eOP (bb p q), b]), s, t, u, v, none, none, none] S := by
  have i0 : ∀ (x y : PV) (S : Sto), fIx (.nl [x, y]) (.int 0) S = .ok x S := fun _ _ _ => rfl
  cases c : bb p q with
  | none => simp [P6, runF, startP, endOf, dRet, dRetN, dIf, dIfS, dB, dBin, dUn, dV, dC, sE, asB, dSeq, dSet, dPar, dPar3, dAsg, dExpr, dAnd, dOr, dNot, bAnd, bOr, bNot, dTru, dCB, dCons, dNil, dTup, dLst, dChain, dPass, fCmpI, fIsN, gTp, gsCons, gsNil, gNm, mkTup, dSl, dPart, dNoPart, lim, iLt, iLe, iGt, iGe, eOP, isN_n, i0]
  | some r =>
    obtain ⟨ok, b1, b2, ei⟩ := bb_ok hp hq h c
    have k1 := fun S => e_promise (S := S) ok
    have k2 := fun S => e_backs (S := S) ok hp
    have k3 := fun S => e_backs (S := S) ok hq
    rw [b1] at k2
    rw [b2] at k3
    have ft : ∀ S, fIs true (.bl true) (.bl true) S = .ok (.bl false) S := fun _ => rfl
    have l1 := dLc_map (di := iSeq (dBin fIx (dBin fIx (dV 2) (dC (.int 0))) (dC (.int 1)))) (f := cNm 7) (de := dV 7) (ρ := [some (eP p), some (eP q), some (.nl [eP r, b]), s, t, u, v, none, none, none]) (vs := [7]) (S := S) (xs := r.ins) eH eH (fun _ => True) rfl (fun x _ => ⟨_, rfl, fun S => rfl⟩) (fun _ _ => trivial) (lim6 ok.il)
    have l2 := lc_zip (e1 := eH) (e2 := eH) (di := iZip2 (dCons (dBin fIx (dV 0) (dC (.int 1))) (dCons (dBin fIx (dV 1) (dC (.int 1))) (dNil)))) (i := 8) (j := 9) (de := dCB F_joined (dCons (dV 8) (dCons (dV 9) (dNil)))) (ρ := [some (eP p), some (eP q), some (.nl [eP r, b]), s, t, u, v, none, none, none]) (xs := p.ins) (ys := q.ins) (S := S)
      (fun z => eH (jn z.1 z.2)) (fun z => HOk z.1 ∧ HOk z.2) rfl (fun x y h S => by show F_joined [eH x, eH y] S = _; exact e_joined h.1 h.2) (zip_mem hp.ins hq.ins) (lim6 hp.il)
    rw [jI_map, ← ei] at l2
    simp [P6, runF, startP, endOf, dRet, dRetN, dIf, dIfS, dB, dBin, dUn, dV, dC, sE, asB, dSeq, dSet, dPar, dPar3, dAsg, dExpr, dAnd, dOr, dNot, bAnd, bOr, bNot, dTru, dCB, dCons, dNil, dTup, dLst, dChain, dPass, fCmpI, fIsN, gTp, gsCons, gsNil, gNm, mkTup, dSl, dPart, dNoPart, lim, iLt, iLe, iGt, iGe, eOP, isN_p, i0, k1, k2, k3, ft, truP, l1, l2, eq_ins]
theorem q_P7 {p q : Pm} (hp : POk p) (hq : POk q) (h : al p q = true) (b : PV) (s t u v : Option PV) (S : Sto) :
    P7 [some (eP p), some (eP q), some (.nl [b, eOP (bd p q)]), s, t, u, v, none, none, none] S = .nx [some (eP p), some (eP q), some (.nl [b, eOP (bd p q)]), s, t, u, v, none, none, none] S := by
  have i1 : ∀ (x y : PV) (S : Sto), fIx (.nl [x, y]) (.int 1) S = .ok y S := fun _ _ _ => rfl
  cases c : bd p q with
  | none => simp [P7, runF, startP, endOf, dRet, dRetN, dIf, dIfS, dB, dBin, dUn, dV, dC, sE, asB, dSeq, dSet, dPar, dPar3, dAsg, dExpr, dAnd, dOr, dNot, bAnd, bOr, bNot, dTru, dCB, dCons, dNil, dTup, dLst, dChain, dPass, fCmpI, fIsN, gTp, gsCons, gsNil, gNm, mkTup, dSl, dPart, dNoPart, lim, iLt, iLe, iGt, iGe, eOP, isN_n, i1]
  | some r =>
    obtain ⟨ok, b1, b2, eo⟩ := bd_ok hp hq h c
    have k1 := fun S => e_promise (S := S) ok
    have k2 := fun S => e_backs (S := S) hp ok
    have k3 := fun S => e_backs (S := S) hq ok
    rw [b1] at k2
    rw [b2] at k3
    have ft : ∀ S, fIs true (.bl true) (.bl true) S = .ok (.bl false) S := fun _ => rfl
    have j := fun S => e_joined (S := S) hp.out hq.out
    simp [P7, runF, startP, endOf, dRet, dRetN, dIf, dIfS, dB, dBin, dUn, dV, dC, sE, asB, dSeq, dSet, dPar, dPar3, dAsg, dExpr, dAnd, dOr, dNot, bAnd, bOr, bNot, dTru, dCB, dCons, dNil, dTup, dLst, dChain, dPass, fCmpI, fIsN, gTp, gsCons, gsNil, gNm, mkTup, dSl, dPart, dNoPart, lim, iLt, iLe, iGt, iGe, eOP, isN_p, i1, k1, k2, k3, ft, truP, ix_p3, j, eq_h, eo]
theorem q_P8 {p : Pm} (hp : POk p) (q d s t u v : Option PV) (S : Sto) : P8 [some (eP p), q, d, s, t, u, v, none, none, none] S = .rt (.bl true) S := by
  have e1 := fun S => e_backing (S := S) hp hp (al_self p)
  have e2 := fun S => e_backed (S := S) hp hp (al_self p)
  rw [bb_self hp] at e1
  rw [bd_self hp] at e2
  have f := fun S => eq_p (neg := false) (S := S) hp hp
  simp [P8, runF, startP, endOf, dRet, dRetN, dIf, dIfS, dB, dBin, dUn, dV, dC, sE, asB, dSeq, dSet, dPar, dPar3, dAsg, dExpr, dAnd, dOr, dNot, bAnd, bOr, bNot, dTru, dCB, dCons, dNil, dTup, dLst, dChain, dPass, fCmpI, fIsN, gTp, gsCons, gsNil, gNm, mkTup, dSl, dPart, dNoPart, lim, iLt, iLe, iGt, iGe, eOP, e1, e2, f, truP]
theorem e_pair {p q : Pm} (hp : POk p) (hq : POk q) (h : al p q = true) (S : Sto) : ∃ r, F_law_pair_right_L [eP p, eP q] S = .ok (.bl true) (S ++ r) := by
  obtain ⟨S', e1, r, rfl⟩ := q_P1 hp hq S
  have ob : OOk (bb p q) := by
    cases c : bb p q with
    | none => trivial
    | some r => exact (bb_ok hp hq h c).1
  have od : OOk (bd p q) := by
    cases c : bd p q with
    | none => trivial
    | some r => exact (bd_ok hp hq h c).1
  refine ⟨r, ?_⟩
  have e3 := q_P3 ob od (some (eP p)) (some (eP q)) (S ++ r)
  have e4 := q_P4 hp hq h (.nl [eOP (bb p q), eOP (bd p q)]) (.nl [eOP (bb p q), eOP (bd p q)]) (S ++ r)
  rw [bb_turn hp hq h, bd_turn hp hq h] at e4
  obtain ⟨u, v, e5⟩ := q_P5 (bb p q) (bd p q) q.nm (some (eP p)) (some (eP q)) (some (.nl [eOP (bb p q), eOP (bd p q)])) (S ++ r)
  have e6 := q_P6 hp hq h (eOP (bd p q)) (some (.nl [eOP (bb p q), eOP (bd p q)])) (some (.nl [eOP ((bb p q).map fun r => { r with nm := q.nm }), eOP ((bd p q).map fun r => { r with nm := q.nm })])) u v (S ++ r)
  have e7 := q_P7 hp hq h (eOP (bb p q)) (some (.nl [eOP (bb p q), eOP (bd p q)])) (some (.nl [eOP ((bb p q).map fun r => { r with nm := q.nm }), eOP ((bd p q).map fun r => { r with nm := q.nm })])) u v (S ++ r)
  unfold F_law_pair_right_L runF
  rw [pr_parts]
  simp only [dSeq, List.length_cons, List.length_nil, if_true, Nat.reduceAdd, e1, q_P2 hp hq h, e3, e4, e5, e6, e7, q_P8 hp, endOf]
end G73
end
section
set_option Elab.async false
set_option linter.all false
set_option maxRecDepth 100000
set_option maxHeartbeats 2000000
namespace G73
open PySem PySem.Spec PyProof.Rows L2 Mi

/-! ### the others are right -/
def O0 : EnP → Sto → SR := (dPar 4 5 (dCons (dCB F_law_both_L (dCons (dV 1) (dCons (dV 2) (dCons (dC (.bl true)) (dNil))))) (dCons (dCB F_law_both_L (dCons (dV 1) (dCons (dV 2) (dCons (dC (.bl false)) (dNil))))) (dNil))))
def Ob : EnP → Sto → SR := (dSeq (dSet 7 (dCB F_law_promise_L (dCons (dV 0) (dCons (dV 3) (dNil))))) (dSeq (dIfS (bAnd (dB (dBin (fIsN true) (dV 4) (dC .non))) (dB (dBin (fEq false) (dCB F_law_draw_L (dCons (dV 0) (dCons (dC (.int 2)) (dNil)))) (dC (.int 0))))) (dSet 7 (dIf (dB (dBin (fIsN true) (dCB F_law_both_L (dCons (dV 7) (dCons (dV 4) (dCons (dC (.bl true)) (dNil))))) (dC .non))) (dCB F_law_both_L (dCons (dV 7) (dCons (dV 4) (dCons (dC (.bl true)) (dNil))))) (dV 7))) (dPass)) (dSeq (dIfS (bAnd (dTru (dCB F_backs (dCons (dV 7) (dCons (dV 1) (dNil))))) (dTru (dCB F_backs (dCons (dV 7) (dCons (dV 2) (dNil)))))) (dIfS (bOr (dB (dBin (fIsN false) (dV 4) (dC .non))) (dB (dBin (fIs true) (dCB F_backs (dCons (dV 7) (dCons (dV 4) (dNil)))) (dC (.bl true))))) (dRet (dC (.bl false))) (dPass)) (dPass)) (dSeq (dSet 8 (dCB F_law_promise_L (dCons (dV 0) (dCons (dV 3) (dNil))))) (dSeq (dIfS (bAnd (dB (dBin (fIsN true) (dV 5) (dC .non))) (dB (dBin (fEq false) (dCB F_law_draw_L (dCons (dV 0) (dCons (dC (.int 2)) (dNil)))) (dC (.int 0))))) (dSet 8 (dIf (dB (dBin (fIsN true) (dCB F_law_both_L (dCons (dV 8) (dCons (dV 5) (dCons (dC (.bl false)) (dNil))))) (dC .non))) (dCB F_law_both_L (dCons (dV 8) (dCons (dV 5) (dCons (dC (.bl false)) (dNil))))) (dV 8))) (dPass)) (dIfS (bAnd (dTru (dCB F_backs (dCons (dV 1) (dCons (dV 8) (dNil))))) (dTru (dCB F_backs (dCons (dV 2) (dCons (dV 8) (dNil)))))) (dIfS (bOr (dB (dBin (fIsN false) (dV 5) (dC .non))) (dB (dBin (fIs true) (dCB F_backs (dCons (dV 5) (dCons (dV 8) (dNil)))) (dC (.bl true))))) (dRet (dC (.bl false))) (dPass)) (dPass)))))))
def O1 : EnP → Sto → SR := (dSet 7 (dCB F_law_promise_L (dCons (dV 0) (dCons (dV 3) (dNil)))))
def O2 : EnP → Sto → SR := (dIfS (bAnd (dB (dBin (fIsN true) (dV 4) (dC .non))) (dB (dBin (fEq false) (dCB F_law_draw_L (dCons (dV 0) (dCons (dC (.int 2)) (dNil)))) (dC (.int 0))))) (dSet 7 (dIf (dB (dBin (fIsN true) (dCB F_law_both_L (dCons (dV 7) (dCons (dV 4) (dCons (dC (.bl true)) (dNil))))) (dC .non))) (dCB F_law_both_L (dCons (dV 7) (dCons (dV 4) (dCons (dC (.bl true)) (dNil))))) (dV 7))) (dPass))
def O3 : EnP → Sto → SR := (dIfS (bAnd (dTru (dCB F_backs (dCons (dV 7) (dCons (dV 1) (dNil))))) (dTru (dCB F_backs (dCons (dV 7) (dCons (dV 2) (dNil)))))) (dIfS (bOr (dB (dBin (fIsN false) (dV 4) (dC .non))) (dB (dBin (fIs true) (dCB F_backs (dCons (dV 7) (dCons (dV 4) (dNil)))) (dC (.bl true))))) (dRet (dC (.bl false))) (dPass)) (dPass))
def O4 : EnP → Sto → SR := (dSet 8 (dCB F_law_promise_L (dCons (dV 0) (dCons (dV 3) (dNil)))))
def O5 : EnP → Sto → SR := (dIfS (bAnd (dB (dBin (fIsN true) (dV 5) (dC .non))) (dB (dBin (fEq false) (dCB F_law_draw_L (dCons (dV 0) (dCons (dC (.int 2)) (dNil)))) (dC (.int 0))))) (dSet 8 (dIf (dB (dBin (fIsN true) (dCB F_law_both_L (dCons (dV 8) (dCons (dV 5) (dCons (dC (.bl false)) (dNil))))) (dC .non))) (dCB F_law_both_L (dCons (dV 8) (dCons (dV 5) (dCons (dC (.bl false)) (dNil))))) (dV 8))) (dPass))
def O6 : EnP → Sto → SR := (dIfS (bAnd (dTru (dCB F_backs (dCons (dV 1) (dCons (dV 8) (dNil))))) (dTru (dCB F_backs (dCons (dV 2) (dCons (dV 8) (dNil)))))) (dIfS (bOr (dB (dBin (fIsN false) (dV 5) (dC .non))) (dB (dBin (fIs true) (dCB F_backs (dCons (dV 5) (dCons (dV 8) (dNil)))) (dC (.bl true))))) (dRet (dC (.bl false))) (dPass)) (dPass))
theorem or_parts : d_law_others_right_L = dSeq O0 (dSeq (dFor (iRange (dCons (dC (.int 8)) (dNil))) (gNm 6) Ob) (dRet (dC (.bl true)))) := rfl
theorem Ob_parts : Ob = dSeq O1 (dSeq O2 (dSeq O3 (dSeq O4 (dSeq O5 O6)))) := rfl
section
variable {b : Int} {S : Sto} {p q : Pm} {m : Int} {ls : List Int}
theorem al_of {p q : Pm} {m : Int} {ls : List Int} (h1 : p.ins.length = m.toNat) (h2 : heads p.rows = ls) (k1 : q.ins.length = m.toNat) (k2 : heads q.rows = ls) : al p q = true := by
  unfold al
  rw [h1, h2, k1, k2]
  simp
theorem q_O1 (h : Hk b S) (hb : b ≤ 999900000) (hs : ShOk m ls) (p q A B x6 x7 x8 : Option PV) : ∃ t S', O1 [some (.ref 0), p, q, some (eSh m ls), A, B, x6, x7, x8] S = .nx [some (.ref 0), p, q, some (eSh m ls), A, B, x6, some (eP t), x8] S' ∧ POk t ∧ t.ins.length = m.toNat ∧ heads t.rows = ls ∧ Hk (b + 100) S' := by
  obtain ⟨t, S', e, ok, k1, k2, hk⟩ := e_promise_draw h hb hs
  exact ⟨t, S', by simp [O1, runF, startP, endOf, dRet, dRetN, dIf, dIfS, dB, dBin, dUn, dV, dC, sE, asB, dSeq, dSet, dPar, dPar3, dAsg, dExpr, dAnd, dOr, dNot, bAnd, bOr, bNot, dTru, dCB, dCons, dNil, dTup, dLst, dChain, dPass, fCmpI, fIsN, gTp, gsCons, gsNil, gNm, mkTup, dSl, dPart, dNoPart, lim, iLt, iLe, iGt, iGe, e], ok, k1, k2, hk⟩
theorem q_O4 (h : Hk b S) (hb : b ≤ 999900000) (hs : ShOk m ls) (p q A B x6 x7 x8 : Option PV) : ∃ t S', O4 [some (.ref 0), p, q, some (eSh m ls), A, B, x6, x7, x8] S = .nx [some (.ref 0), p, q, some (eSh m ls), A, B, x6, x7, some (eP t)] S' ∧ POk t ∧ t.ins.length = m.toNat ∧ heads t.rows = ls ∧ Hk (b + 100) S' := by
  obtain ⟨t, S', e, ok, k1, k2, hk⟩ := e_promise_draw h hb hs
  exact ⟨t, S', by simp [O4, runF, startP, endOf, dRet, dRetN, dIf, dIfS, dB, dBin, dUn, dV, dC, sE, asB, dSeq, dSet, dPar, dPar3, dAsg, dExpr, dAnd, dOr, dNot, bAnd, bOr, bNot, dTru, dCB, dCons, dNil, dTup, dLst, dChain, dPass, fCmpI, fIsN, gTp, gsCons, gsNil, gNm, mkTup, dSl, dPart, dNoPart, lim, iLt, iLe, iGt, iGe, e], ok, k1, k2, hk⟩
theorem q_O2 (h : Hk b S) (hb : b ≤ 999900000) {A : Option Pm} {t : Pm} (ht : POk t) (hA : ∀ r, A = some r → POk r ∧ al t r = true) (p q s B x6 x8 : Option PV) :
    ∃ u S', O2 [some (.ref 0), p, q, s, some (eOP A), B, x6, some (eP t), x8] S = .nx [some (.ref 0), p, q, s, some (eOP A), B, x6, some (eP u), x8] S' ∧ POk u ∧ al u t = true ∧ Hk (b + 1) S' := by
  cases A with
  | none => exact ⟨t, S, by simp [O2, runF, startP, endOf, dRet, dRetN, dIf, dIfS, dB, dBin, dUn, dV, dC, sE, asB, dSeq, dSet, dPar, dPar3, dAsg, dExpr, dAnd, dOr, dNot, bAnd, bOr, bNot, dTru, dCB, dCons, dNil, dTup, dLst, dChain, dPass, fCmpI, fIsN, gTp, gsCons, gsNil, gNm, mkTup, dSl, dPart, dNoPart, lim, iLt, iLe, iGt, iGe, eOP, isN_n], ht, al_self t, h.mono (by omega)⟩
  | some r =>
    obtain ⟨hr, ha⟩ := hA r rfl
    obtain ⟨d, S1, e1, d0, d1, h1⟩ := e_draw (k := 2) h (by omega) (by omega) (by omega)
    by_cases c : d = 0
    · subst c
      obtain ⟨l1, l2, e2⟩ := e_law_both true S1 ht hr
      obtain ⟨l3, l4, e3⟩ := e_law_both true (S1 ++ [SO.lst l1, SO.lst l2]) ht hr
      rw [two_t] at e2 e3
      cases c2 : bb t r with
      | none =>
        rw [c2] at e2
        exact ⟨t, S1 ++ [SO.lst l1, SO.lst l2], by simp [O2, runF, startP, endOf, dRet, dRetN, dIf, dIfS, dB, dBin, dUn, dV, dC, sE, asB, dSeq, dSet, dPar, dPar3, dAsg, dExpr, dAnd, dOr, dNot, bAnd, bOr, bNot, dTru, dCB, dCons, dNil, dTup, dLst, dChain, dPass, fCmpI, fIsN, gTp, gsCons, gsNil, gNm, mkTup, dSl, dPart, dNoPart, lim, iLt, iLe, iGt, iGe, eOP, isN_n, isN_p, e1, e2, eq_int], ht, al_self t, h1.more _⟩
      | some u =>
        rw [c2] at e2 e3
        obtain ⟨ok, b1, _⟩ := bb_ok ht hr ha c2
        refine ⟨u, S1 ++ [SO.lst l1, SO.lst l2] ++ [SO.lst l3, SO.lst l4], ?_, ok, (bk_iff.mp b1).1, (h1.more _).more _⟩
        unfold eOP at e2 e3
        simp [O2, runF, startP, endOf, dRet, dRetN, dIf, dIfS, dB, dBin, dUn, dV, dC, sE, asB, dSeq, dSet, dPar, dPar3, dAsg, dExpr, dAnd, dOr, dNot, bAnd, bOr, bNot, dTru, dCB, dCons, dNil, dTup, dLst, dChain, dPass, fCmpI, fIsN, gTp, gsCons, gsNil, gNm, mkTup, dSl, dPart, dNoPart, lim, iLt, iLe, iGt, iGe, eOP, isN_n, isN_p, e1, e2, e3, eq_int]
    · exact ⟨t, S1, by simp [O2, runF, startP, endOf, dRet, dRetN, dIf, dIfS, dB, dBin, dUn, dV, dC, sE, asB, dSeq, dSet, dPar, dPar3, dAsg, dExpr, dAnd, dOr, dNot, bAnd, bOr, bNot, dTru, dCB, dCons, dNil, dTup, dLst, dChain, dPass, fCmpI, fIsN, gTp, gsCons, gsNil, gNm, mkTup, dSl, dPart, dNoPart, lim, iLt, iLe, iGt, iGe, eOP, isN_p, e1, eq_int, c], ht, al_self t, h1⟩
theorem q_O5 (h : Hk b S) (hb : b ≤ 999900000) {B : Option Pm} {t : Pm} (ht : POk t) (hB : ∀ r, B = some r → POk r ∧ al t r = true) (p q s A x6 x7 : Option PV) :
    ∃ u S', O5 [some (.ref 0), p, q, s, A, some (eOP B), x6, x7, some (eP t)] S = .nx [some (.ref 0), p, q, s, A, some (eOP B), x6, x7, some (eP u)] S' ∧ POk u ∧ al u t = true ∧ Hk (b + 1) S' := by
  cases B with
  | none => exact ⟨t, S, by simp [O5, runF, startP, endOf, dRet, dRetN, dIf, dIfS, dB, dBin, dUn, dV, dC, sE, asB, dSeq, dSet, dPar, dPar3, dAsg, dExpr, dAnd, dOr, dNot, bAnd, bOr, bNot, dTru, dCB, dCons, dNil, dTup, dLst, dChain, dPass, fCmpI, fIsN, gTp, gsCons, gsNil, gNm, mkTup, dSl, dPart, dNoPart, lim, iLt, iLe, iGt, iGe, eOP, isN_n], ht, al_self t, h.mono (by omega)⟩
  | some r =>
    obtain ⟨hr, ha⟩ := hB r rfl
    obtain ⟨d, S1, e1, d0, d1, h1⟩ := e_draw (k := 2) h (by omega) (by omega) (by omega)
    by_cases c : d = 0
    · subst c
      obtain ⟨l1, l2, e2⟩ := e_law_both false S1 ht hr
      obtain ⟨l3, l4, e3⟩ := e_law_both false (S1 ++ [SO.lst l1, SO.lst l2]) ht hr
      rw [two_f] at e2 e3
      cases c2 : bd t r with
      | none =>
        rw [c2] at e2
        exact ⟨t, S1 ++ [SO.lst l1, SO.lst l2], by simp [O5, runF, startP, endOf, dRet, dRetN, dIf, dIfS, dB, dBin, dUn, dV, dC, sE, asB, dSeq, dSet, dPar, dPar3, dAsg, dExpr, dAnd, dOr, dNot, bAnd, bOr, bNot, dTru, dCB, dCons, dNil, dTup, dLst, dChain, dPass, fCmpI, fIsN, gTp, gsCons, gsNil, gNm, mkTup, dSl, dPart, dNoPart, lim, iLt, iLe, iGt, iGe, eOP, isN_n, isN_p, e1, e2, eq_int], ht, al_self t, h1.more _⟩
      | some u =>
        rw [c2] at e2 e3
        obtain ⟨ok, b1, _⟩ := bd_ok ht hr ha c2
        refine ⟨u, S1 ++ [SO.lst l1, SO.lst l2] ++ [SO.lst l3, SO.lst l4], ?_, ok, al_sym (bk_iff.mp b1).1, (h1.more _).more _⟩
        unfold eOP at e2 e3
        simp [O5, runF, startP, endOf, dRet, dRetN, dIf, dIfS, dB, dBin, dUn, dV, dC, sE, asB, dSeq, dSet, dPar, dPar3, dAsg, dExpr, dAnd, dOr, dNot, bAnd, bOr, bNot, dTru, dCB, dCons, dNil, dTup, dLst, dChain, dPass, fCmpI, fIsN, gTp, gsCons, gsNil, gNm, mkTup, dSl, dPart, dNoPart, lim, iLt, iLe, iGt, iGe, eOP, isN_n, isN_p, e1, e2, e3, eq_int]
    · exact ⟨t, S1, by simp [O5, runF, startP, endOf, dRet, dRetN, dIf, dIfS, dB, dBin, dUn, dV, dC, sE, asB, dSeq, dSet, dPar, dPar3, dAsg, dExpr, dAnd, dOr, dNot, bAnd, bOr, bNot, dTru, dCB, dCons, dNil, dTup, dLst, dChain, dPass, fCmpI, fIsN, gTp, gsCons, gsNil, gNm, mkTup, dSl, dPart, dNoPart, lim, iLt, iLe, iGt, iGe, eOP, isN_p, e1, eq_int, c], ht, al_self t, h1⟩
theorem is_tt (S : Sto) : fIs true (.bl true) (.bl true) S = .ok (.bl false) S := rfl
theorem q_O3 {t : Pm} (hp : POk p) (hq : POk q) (ht : POk t) (h : al p q = true) (s B x6 x8 h0 : Option PV) :
    O3 [h0, some (eP p), some (eP q), s, some (eOP (bb p q)), B, x6, some (eP t), x8] S = .nx [h0, some (eP p), some (eP q), s, some (eOP (bb p q)), B, x6, some (eP t), x8] S := by
  have k1 := fun S => e_backs (S := S) ht hp
  have k2 := fun S => e_backs (S := S) ht hq
  cases b1 : bk t p
  · rw [b1] at k1
    simp [O3, runF, startP, endOf, dRet, dRetN, dIf, dIfS, dB, dBin, dUn, dV, dC, sE, asB, dSeq, dSet, dPar, dPar3, dAsg, dExpr, dAnd, dOr, dNot, bAnd, bOr, bNot, dTru, dCB, dCons, dNil, dTup, dLst, dChain, dPass, fCmpI, fIsN, gTp, gsCons, gsNil, gNm, mkTup, dSl, dPart, dNoPart, lim, iLt, iLe, iGt, iGe, k1, truP]
  · cases b2 : bk t q
    · rw [b1] at k1
      rw [b2] at k2
      simp [O3, runF, startP, endOf, dRet, dRetN, dIf, dIfS, dB, dBin, dUn, dV, dC, sE, asB, dSeq, dSet, dPar, dPar3, dAsg, dExpr, dAnd, dOr, dNot, bAnd, bOr, bNot, dTru, dCB, dCons, dNil, dTup, dLst, dChain, dPass, fCmpI, fIsN, gTp, gsCons, gsNil, gNm, mkTup, dSl, dPart, dNoPart, lim, iLt, iLe, iGt, iGe, k1, k2, truP]
    · obtain ⟨r, e, b3⟩ := bb_top hp hq ht h b1 b2
      obtain ⟨ok, _⟩ := bb_ok hp hq h e
      have k3 := fun S => e_backs (S := S) ht ok
      rw [b1] at k1
      rw [b2] at k2
      rw [b3] at k3
      simp [O3, runF, startP, endOf, dRet, dRetN, dIf, dIfS, dB, dBin, dUn, dV, dC, sE, asB, dSeq, dSet, dPar, dPar3, dAsg, dExpr, dAnd, dOr, dNot, bAnd, bOr, bNot, dTru, dCB, dCons, dNil, dTup, dLst, dChain, dPass, fCmpI, fIsN, gTp, gsCons, gsNil, gNm, mkTup, dSl, dPart, dNoPart, lim, iLt, iLe, iGt, iGe, k1, k2, k3, truP, e, eOP, isN_p, is_tt]
theorem q_O6 {t : Pm} (hp : POk p) (hq : POk q) (ht : POk t) (h : al p q = true) (s A x6 x7 h0 : Option PV) :
    O6 [h0, some (eP p), some (eP q), s, A, some (eOP (bd p q)), x6, x7, some (eP t)] S = .nx [h0, some (eP p), some (eP q), s, A, some (eOP (bd p q)), x6, x7, some (eP t)] S := by
  have k1 := fun S => e_backs (S := S) hp ht
  have k2 := fun S => e_backs (S := S) hq ht
  cases b1 : bk p t
  · rw [b1] at k1
    simp [O6, runF, startP, endOf, dRet, dRetN, dIf, dIfS, dB, dBin, dUn, dV, dC, sE, asB, dSeq, dSet, dPar, dPar3, dAsg, dExpr, dAnd, dOr, dNot, bAnd, bOr, bNot, dTru, dCB, dCons, dNil, dTup, dLst, dChain, dPass, fCmpI, fIsN, gTp, gsCons, gsNil, gNm, mkTup, dSl, dPart, dNoPart, lim, iLt, iLe, iGt, iGe, k1, truP]
  · cases b2 : bk q t
    · rw [b1] at k1
      rw [b2] at k2
      simp [O6, runF, startP, endOf, dRet, dRetN, dIf, dIfS, dB, dBin, dUn, dV, dC, sE, asB, dSeq, dSet, dPar, dPar3, dAsg, dExpr, dAnd, dOr, dNot, bAnd, bOr, bNot, dTru, dCB, dCons, dNil, dTup, dLst, dChain, dPass, fCmpI, fIsN, gTp, gsCons, gsNil, gNm, mkTup, dSl, dPart, dNoPart, lim, iLt, iLe, iGt, iGe, k1, k2, truP]
    · obtain ⟨r, e, b3⟩ := bd_top hp hq ht h b1 b2
      obtain ⟨ok, _⟩ := bd_ok hp hq h e
      have k3 := fun S => e_backs (S := S) ok ht
      rw [b1] at k1
      rw [b2] at k2
      rw [b3] at k3
      simp [O6, runF, startP, endOf, dRet, dRetN, dIf, dIfS, dB, dBin, dUn, dV, dC, sE, asB, dSeq, dSet, dPar, dPar3, dAsg, dExpr, dAnd, dOr, dNot, bAnd, bOr, bNot, dTru, dCB, dCons, dNil, dTup, dLst, dChain, dPass, fCmpI, fIsN, gTp, gsCons, gsNil, gNm, mkTup, dSl, dPart, dNoPart, lim, iLt, iLe, iGt, iGe, k1, k2, k3, truP, e, eOP, isN_p, is_tt]
theorem al_ch {p t u : Pm} (h : al u t = true) (k : al t p = true) : al u p = true := al_tr h k
theorem q_Ob (h : Hk b S) (hb : b ≤ 999800000) (hs : ShOk m ls) (hp : POk p) (hq : POk q) (p1 : p.ins.length = m.toNat) (p2 : heads p.rows = ls) (ha : al p q = true) (x6 x7 x8 : Option PV) :
    ∃ y7 y8 S', Ob [some (.ref 0), some (eP p), some (eP q), some (eSh m ls), some (eOP (bb p q)), some (eOP (bd p q)), x6, x7, x8] S = .nx [some (.ref 0), some (eP p), some (eP q), some (eSh m ls), some (eOP (bb p q)), some (eOP (bd p q)), x6, y7, y8] S' ∧ Hk (b + 202) S' := by
  have fa : ∀ t : Pm, al t p = true → ∀ r, bb p q = some r → POk r ∧ al t r = true := fun t k r e => by
    obtain ⟨ok, b1, _⟩ := bb_ok hp hq ha e
    exact ⟨ok, al_tr k (al_sym (bk_iff.mp b1).1)⟩
  have fb : ∀ t : Pm, al t p = true → ∀ r, bd p q = some r → POk r ∧ al t r = true := fun t k r e => by
    obtain ⟨ok, b1, _⟩ := bd_ok hp hq ha e
    exact ⟨ok, al_tr k (bk_iff.mp b1).1⟩
  obtain ⟨t, S1, e1, ok1, t1, t2, h1⟩ := q_O1 h (by omega) hs (some (eP p)) (some (eP q)) (some (eOP (bb p q))) (some (eOP (bd p q))) x6 x7 x8
  obtain ⟨u, S2, e2, ok2, au, h2⟩ := q_O2 (A := bb p q) h1 (by omega) ok1 (fa t (al_of t1 t2 p1 p2)) (some (eP p)) (some (eP q)) (some (eSh m ls)) (some (eOP (bd p q))) x6 x8
  have e3 := q_O3 (S := S2) hp hq ok2 ha (some (eSh m ls)) (some (eOP (bd p q))) x6 x8 (some (.ref 0))
  obtain ⟨v, S4, e4, ok4, v1, v2, h4⟩ := q_O4 h2 (by omega) hs (some (eP p)) (some (eP q)) (some (eOP (bb p q))) (some (eOP (bd p q))) x6 (some (eP u)) x8
  obtain ⟨w, S5, e5, ok5, aw, h5⟩ := q_O5 (B := bd p q) h4 (by omega) ok4 (fb v (al_of v1 v2 p1 p2)) (some (eP p)) (some (eP q)) (some (eSh m ls)) (some (eOP (bb p q))) x6 (some (eP u))
  have e6 := q_O6 (S := S5) hp hq ok5 ha (some (eSh m ls)) (some (eOP (bb p q))) x6 (some (eP u)) (some (.ref 0))
  refine ⟨some (eP u), some (eP w), S5, ?_, h5.mono (by omega)⟩
  rw [Ob_parts]
  simp only [dSeq, e1, e2, e3, e4, e5, e6]
theorem q_loop (hs : ShOk m ls) (hp : POk p) (hq : POk q) (p1 : p.ins.length = m.toNat) (p2 : heads p.rows = ls) (ha : al p q = true) : ∀ (xs : List PV) (b : Int) (S : Sto) (x6 x7 x8 : Option PV), Hk b S → b + 202 * xs.length ≤ 999800000 →
    ∃ y6 y7 y8 S', forP (gNm 6) Ob xs [some (.ref 0), some (eP p), some (eP q), some (eSh m ls), some (eOP (bb p q)), some (eOP (bd p q)), x6, x7, x8] S = .nx [some (.ref 0), some (eP p), some (eP q), some (eSh m ls), some (eOP (bb p q)), some (eOP (bd p q)), y6, y7, y8] S' ∧ Hk (b + 202 * xs.length) S'
  | [], b, S, x6, x7, x8, h, _ => ⟨x6, x7, x8, S, rfl, by simpa using h⟩
  | x :: xs, b, S, x6, x7, x8, h, hb => by
    rw [List.length_cons] at hb ⊢
    obtain ⟨y7, y8, S1, e1, h1⟩ := q_Ob h (by omega) hs hp hq p1 p2 ha (some x) x7 x8
    obtain ⟨z6, z7, z8, S2, e2, h2⟩ := q_loop hs hp hq p1 p2 ha xs (b + 202) S1 (some x) y7 y8 h1 (by omega)
    refine ⟨z6, z7, z8, S2, ?_, h2.mono (by omega)⟩
    rw [forP]
    simp only [gNm, sE, List.set_cons_succ, List.set_cons_zero, e1, e2]
theorem e_others (h : Hk b S) (hb : b ≤ 999000000) (hs : ShOk m ls) (hp : POk p) (hq : POk q) (p1 : p.ins.length = m.toNat) (p2 : heads p.rows = ls) (ha : al p q = true) : ∃ S', F_law_others_right_L [.ref 0, eP p, eP q, eSh m ls] S = .ok (.bl true) S' ∧ Hk (b + 1616) S' := by
  obtain ⟨l1, l2, e1⟩ := e_law_both true S hp hq
  obtain ⟨l3, l4, e2⟩ := e_law_both false (S ++ [SO.lst l1, SO.lst l2]) hp hq
  rw [two_t] at e1
  rw [two_f] at e2
  have h2 : Hk b (S ++ [SO.lst l1, SO.lst l2] ++ [SO.lst l3, SO.lst l4]) := (h.more _).more _
  have e0 : O0 (startP 9 [.ref 0, eP p, eP q, eSh m ls]) S = .nx [some (.ref 0), some (eP p), some (eP q), some (eSh m ls), some (eOP (bb p q)), some (eOP (bd p q)), none, none, none] (S ++ [SO.lst l1, SO.lst l2] ++ [SO.lst l3, SO.lst l4]) := by
    simp [O0, runF, startP, endOf, dRet, dRetN, dIf, dIfS, dB, dBin, dUn, dV, dC, sE, asB, dSeq, dSet, dPar, dPar3, dAsg, dExpr, dAnd, dOr, dNot, bAnd, bOr, bNot, dTru, dCB, dCons, dNil, dTup, dLst, dChain, dPass, fCmpI, fIsN, gTp, gsCons, gsNil, gNm, mkTup, dSl, dPart, dNoPart, lim, iLt, iLe, iGt, iGe, e1, e2]
  obtain ⟨y6, y7, y8, S', e3, h3⟩ := q_loop hs hp hq p1 p2 ha (Mi.upTo 0 8) b _ none none none h2 (by show b + 202 * 8 ≤ _; omega)
  refine ⟨S', ?_, h3.mono (by show b + 202 * 8 ≤ _; omega)⟩
  have r1 : ∀ ρ S, iRange (dCons (dC (.int 8)) (dNil)) ρ S = .ok (Mi.upTo 0 8) S := fun _ _ => rfl
  unfold F_law_others_right_L runF
  rw [or_parts]
  simp only [dSeq, List.length_cons, List.length_nil, if_true, Nat.reduceAdd, e0, dFor, r1, sE, e3, dRet, dC, endOf]
end
end G73
end
section
set_option Elab.async false
set_option linter.all false
set_option maxRecDepth 100000
set_option maxHeartbeats 2000000
namespace G73
open PySem PySem.Spec PyProof.Rows L2 Mi

/-! ### the hand -/
theorem cut63 {xs : List PV} (h : xs.length ≤ 63) : cutP xs none (some 63) = xs := by
  unfold cutP
  have a : HT.sIx xs.length 0 none = 0 := rfl
  have b : HT.sIx xs.length xs.length (some 63) = min 63 xs.length := HT.sIx_nat _ _ 63
  rw [a, b, List.drop_zero, Nat.sub_zero, Nat.min_eq_right h, List.take_length]
theorem e_hand {ns : List Int} (h : ns.length ≤ 63) : ∃ S', F_law_hand_L [.fl (ns.map .int)] [] = .ok (.ref 0) S' ∧ Hk 0 S' := by
  have e0 : iSeq (dSl false (dV 0) (dNoPart) (dPart (dC (.int 63)))) [some (.fl (ns.map .int)), none, none] [] = .ok (ns.map PV.int) [] := by
    have c : fSl false (.fl (ns.map PV.int)) none (some 63) [] = .ok (.nl (ns.map PV.int)) [] := by
      show mkLst false (cutP (ns.map PV.int) none (some 63)) [] = _
      rw [cut63 (by simpa using h)]
      unfold mkLst
      rw [if_pos (by simp [lim]; omega)]
      rfl
    simp [iSeq, runF, startP, endOf, dRet, dRetN, dIf, dIfS, dB, dBin, dUn, dV, dC, sE, asB, dSeq, dSet, dPar, dPar3, dAsg, dExpr, dAnd, dOr, dNot, bAnd, bOr, bNot, dTru, dCB, dCons, dNil, dTup, dLst, dChain, dPass, fCmpI, fIsN, gTp, gsCons, gsNil, gNm, mkTup, dSl, dPart, dNoPart, lim, iLt, iLe, iGt, iGe, c]
    try rfl
  have pw : ∀ S, fPow (.int 10) (.int 36) S = .ok (.int (10 ^ 36)) S := fun S => pow_sm (by decide)
  have lc := dLc_map (f := cNm 2) (de := dBin fMod (dCB fInt (dCons (dCB fAbs (dCons (dCB fInt (dCons (dV 2) (dNil))) (dNil))) (dNil))) (dBin fPow (dC (.int 10)) (dC (.int 36)))) (ρ := [some (.fl (ns.map .int)), none, none]) (vs := [2]) PV.int (fun i => PV.int (Int.fmod (if i < 0 then -i else i) (10 ^ 36))) (fun _ => True) e0 (fun x _ => ⟨_, rfl, fun S => by
    show (((Res.ok (PV.int (if x < 0 then -x else x)) S).bind fun a S1 => ((fPow (.int 10) (.int 36) S1).bind fun b S2 => fMod a b S2))) = _
    rw [Res.bind_ok, pw, Res.bind_ok]
    show (if ((10 : Int) ^ 36) ≠ 0 then Res.ok (PV.int (Int.fmod (if x < 0 then -x else x) (10 ^ 36))) S else .bad) = _
    rw [if_pos (by decide)]⟩) (fun _ _ => trivial) (by unfold lim; omega)
  have m5 : ∀ S, fMul false (.int 5) (.int (ns.length : Int)) S = .ok (.int (5 * (ns.length : Int))) S := fun S => mul_sm (by decide +kernel) (big40 (by omega) (by omega))
  refine ⟨[SO.lst [cellsP (ns.map fun i => Int.fmod (if i < 0 then -i else i) (10 ^ 36)), .int 0, .int 0, .int (73 + 5 * (ns.length : Int)), .int 0]], ?_, _, 0, 0, _, 0, rfl, ⟨?_, by omega, by omega, by decide, by omega, by omega, by omega, by omega⟩⟩
  · have c : (ns.map fun i => PV.int (Int.fmod (if i < 0 then -i else i) (10 ^ 36))) = (ns.map fun i => Int.fmod (if i < 0 then -i else i) (10 ^ 36)).map PV.int := by rw [List.map_map]; rfl
    rw [c] at lc
    have ln : ∀ S, fLen [PV.nl ((ns.map fun i => Int.fmod (if i < 0 then -i else i) (10 ^ 36)).map PV.int)] S = .ok (.int (ns.length : Int)) S := fun S => by rw [len_nl]; simp
    unfold cellsP
    generalize ((ns.map fun i => Int.fmod (if i < 0 then -i else i) (10 ^ 36)).map PV.int) = cc at lc ln
    simp [F_law_hand_L, d_law_hand_L, runF, startP, endOf, dRet, dRetN, dIf, dIfS, dB, dBin, dUn, dV, dC, sE, asB, dSeq, dSet, dPar, dPar3, dAsg, dExpr, dAnd, dOr, dNot, bAnd, bOr, bNot, dTru, dCB, dCons, dNil, dTup, dLst, dChain, dPass, fCmpI, fIsN, gTp, gsCons, gsNil, gNm, mkTup, dSl, dPart, dNoPart, lim, iLt, iLe, iGt, iGe, lc, ln, m5, add_int, mkLst]
  · intro x hx
    obtain ⟨i, _, rfl⟩ := List.mem_map.mp hx
    exact fmod_pos (by decide)
/-! ### what is none -/
def Bad (x : PV) : Prop := ∀ S, F_is_promise [x] S = .ok (.bl false) S
theorem bad_none : Bad .non := fun S => rfl
theorem bad_str : Bad (.str "?") := fun S => rfl
theorem bad_0 : Bad (.tup []) := fun S => rfl
theorem bad_3 (a b c : PV) : Bad (.tup [a, b, c]) := fun S => rfl
theorem bad_A (b c d : PV) : Bad (.tup [.str "A", b, c, d]) := fun S => by
  have h : F_is_name [.str "A"] S = .ok (.bl false) S := by kernel_rfl
  have e0 : fIx (.tup [.str "A", b, c, d]) (.int 0) S = .ok (.str "A") S := rfl
  have l : fLen [.tup [.str "A", b, c, d]] S = .ok (.int 4) S := rfl
  simp [F_is_promise, d_is_promise, runF, startP, endOf, dRet, dRetN, dIf, dIfS, dB, dBin, dUn, dV, dC, sE, asB, dSeq, dSet, dPar, dPar3, dAsg, dExpr, dAnd, dOr, dNot, bAnd, bOr, bNot, dTru, dCB, dCons, dNil, dTup, dLst, dChain, dPass, fCmpI, fIsN, gTp, gsCons, gsNil, gNm, mkTup, dSl, dPart, dNoPart, lim, iLt, iLe, iGt, iGe, isi_tup, l, eq_int, e0, h, truP]
theorem bad_l (xs : List PV) : Bad (.nl xs) := fun S => rfl
theorem bad_d : Bad (.nd [] []) := fun S => rfl
theorem chk_bad {x : PV} (h : Bad x) (S : Sto) : F_check_promise [x] S = .exc "NoPromise" [] S := by
  have := h S
  simp [F_check_promise, d_check_promise, runF, startP, endOf, dRet, dRetN, dIf, dIfS, dB, dBin, dUn, dV, dC, sE, asB, dSeq, dSet, dPar, dPar3, dAsg, dExpr, dAnd, dOr, dNot, bAnd, bOr, bNot, dTru, dCB, dCons, dNil, dTup, dLst, dChain, dPass, fCmpI, fIsN, gTp, gsCons, gsNil, gNm, mkTup, dSl, dPart, dNoPart, lim, iLt, iLe, iGt, iGe, this, truP, dRaise]
theorem both_1 {x y : PV} (h : Bad x) (S : Sto) : F_check_alike [x, y] S = .exc "NoPromise" [] S := by
  have := fun S => chk_bad h S
  have e : F_check_both [x, y] S = .exc "NoPromise" [] S := by simp [F_check_both, d_check_both, runF, startP, endOf, dRet, dRetN, dIf, dIfS, dB, dBin, dUn, dV, dC, sE, asB, dSeq, dSet, dPar, dPar3, dAsg, dExpr, dAnd, dOr, dNot, bAnd, bOr, bNot, dTru, dCB, dCons, dNil, dTup, dLst, dChain, dPass, fCmpI, fIsN, gTp, gsCons, gsNil, gNm, mkTup, dSl, dPart, dNoPart, lim, iLt, iLe, iGt, iGe, this]
  simp [F_check_alike, d_check_alike, runF, startP, endOf, dRet, dRetN, dIf, dIfS, dB, dBin, dUn, dV, dC, sE, asB, dSeq, dSet, dPar, dPar3, dAsg, dExpr, dAnd, dOr, dNot, bAnd, bOr, bNot, dTru, dCB, dCons, dNil, dTup, dLst, dChain, dPass, fCmpI, fIsN, gTp, gsCons, gsNil, gNm, mkTup, dSl, dPart, dNoPart, lim, iLt, iLe, iGt, iGe, e]
theorem both_2 {p : Pm} {y : PV} (hp : POk p) (h : Bad y) (S : Sto) : F_check_alike [eP p, y] S = .exc "NoPromise" [] S := by
  have := fun S => chk_bad h S
  have e : F_check_both [eP p, y] S = .exc "NoPromise" [] S := by simp [F_check_both, d_check_both, runF, startP, endOf, dRet, dRetN, dIf, dIfS, dB, dBin, dUn, dV, dC, sE, asB, dSeq, dSet, dPar, dPar3, dAsg, dExpr, dAnd, dOr, dNot, bAnd, bOr, bNot, dTru, dCB, dCons, dNil, dTup, dLst, dChain, dPass, fCmpI, fIsN, gTp, gsCons, gsNil, gNm, mkTup, dSl, dPart, dNoPart, lim, iLt, iLe, iGt, iGe, this, e_check hp]
  simp [F_check_alike, d_check_alike, runF, startP, endOf, dRet, dRetN, dIf, dIfS, dB, dBin, dUn, dV, dC, sE, asB, dSeq, dSet, dPar, dPar3, dAsg, dExpr, dAnd, dOr, dNot, bAnd, bOr, bNot, dTru, dCB, dCons, dNil, dTup, dLst, dChain, dPass, fCmpI, fIsN, gTp, gsCons, gsNil, gNm, mkTup, dSl, dPart, dNoPart, lim, iLt, iLe, iGt, iGe, e]
theorem bb_exc {x y : PV} {c : Str} {S : Sto} (h : F_check_alike [x, y] S = .exc c [] S) : F_backing_both [x, y] S = .exc c [] S := by
  simp [F_backing_both, d_backing_both, runF, startP, endOf, dRet, dRetN, dIf, dIfS, dB, dBin, dUn, dV, dC, sE, asB, dSeq, dSet, dPar, dPar3, dAsg, dExpr, dAnd, dOr, dNot, bAnd, bOr, bNot, dTru, dCB, dCons, dNil, dTup, dLst, dChain, dPass, fCmpI, fIsN, gTp, gsCons, gsNil, gNm, mkTup, dSl, dPart, dNoPart, lim, iLt, iLe, iGt, iGe, h]
theorem bd_exc {x y : PV} {c : Str} {S : Sto} (h : F_check_alike [x, y] S = .exc c [] S) : F_backed_by_both [x, y] S = .exc c [] S := by
  simp [F_backed_by_both, d_backed_by_both, runF, startP, endOf, dRet, dRetN, dIf, dIfS, dB, dBin, dUn, dV, dC, sE, asB, dSeq, dSet, dPar, dPar3, dAsg, dExpr, dAnd, dOr, dNot, bAnd, bOr, bNot, dTru, dCB, dCons, dNil, dTup, dLst, dChain, dPass, fCmpI, fIsN, gTp, gsCons, gsNil, gNm, mkTup, dSl, dPart, dNoPart, lim, iLt, iLe, iGt, iGe, h]
/-! ### what is said -/
theorem said_p {K : Sto → Res PV} {S : Sto} (h : K S = .exc "NoPromise" [] S) : G_law_said_L K S = .ok (.str "promise") S := by
  have c : catT "NoPromise" = some true := by kernel_rfl
  have i1 : isT "NoPromise" (.glb "NoPromise") = some true := by kernel_rfl
  have i2 : isT "NoPromise" (.glb "Unlike") = some false := by kernel_rfl
  have i3 : isT "NoPromise" (.ty "ValueError") = some true := by kernel_rfl
  have k : fCount (.nl [.bl true, .bl false]) (.bl true) [] = .ok (.int 1) [] := by kernel_rfl
  have a : dAct 0 K [some .lam, none, none] S = .exc "NoPromise" [] S := h
  have ix0 : fIx (.nl [.bl true, .bl false]) (.int 0) [] = .ok (.bl true) [] := rfl
  simp [G_law_said_L, lamF, d_law_said_L, dTry, dCount, count1, lstOf, lstT, runF, startP, endOf, dRet, dRetN, dIf, dIfS, dB, dBin, dUn, dV, dC, sE, asB, dSeq, dSet, dPar, dPar3, dAsg, dExpr, dAnd, dOr, dNot, bAnd, bOr, bNot, dTru, dCB, dCons, dNil, dTup, dLst, dChain, dPass, fCmpI, fIsN, gTp, gsCons, gsNil, gNm, mkTup, dSl, dPart, dNoPart, lim, iLt, iLe, iGt, iGe, a, c, tryEnd, errEnv, mkLst, fIsE, isF, i1, i2, i3, k, eq_int, truP, cleanR, flatP, ix0]
theorem said_u {K : Sto → Res PV} {S : Sto} (h : K S = .exc "Unlike" [] S) : G_law_said_L K S = .ok (.str "unlike") S := by
  have c : catT "Unlike" = some true := by kernel_rfl
  have i1 : isT "Unlike" (.glb "NoPromise") = some false := by kernel_rfl
  have i2 : isT "Unlike" (.glb "Unlike") = some true := by kernel_rfl
  have i3 : isT "Unlike" (.ty "ValueError") = some true := by kernel_rfl
  have k : fCount (.nl [.bl false, .bl true]) (.bl true) [] = .ok (.int 1) [] := by kernel_rfl
  have a : dAct 0 K [some .lam, none, none] S = .exc "Unlike" [] S := h
  have ix0 : fIx (.nl [.bl false, .bl true]) (.int 0) [] = .ok (.bl false) [] := rfl
  simp [G_law_said_L, lamF, d_law_said_L, dTry, dCount, count1, lstOf, lstT, runF, startP, endOf, dRet, dRetN, dIf, dIfS, dB, dBin, dUn, dV, dC, sE, asB, dSeq, dSet, dPar, dPar3, dAsg, dExpr, dAnd, dOr, dNot, bAnd, bOr, bNot, dTru, dCB, dCons, dNil, dTup, dLst, dChain, dPass, fCmpI, fIsN, gTp, gsCons, gsNil, gNm, mkTup, dSl, dPart, dNoPart, lim, iLt, iLe, iGt, iGe, a, c, tryEnd, errEnv, mkLst, fIsE, isF, i1, i2, i3, k, eq_int, truP, cleanR, flatP, ix0]
theorem two_is {f x y : PV} {S : Sto} {z : PV} (h : G_law_said_L (fun S => (dCallV 0 t_law_two_said_L (dCons (dV 1) (dCons (dV 2) (dNil)))) [some f, some x, some y] S) S = .ok z S) : F_law_two_said_L [f, x, y] S = .ok z S := by
  unfold F_law_two_said_L runF
  show endOf (dRet (fun ρ S => G_law_said_L (fun S => (dCallV 0 t_law_two_said_L (dCons (dV 1) (dCons (dV 2) (dNil)))) ρ S) S) [some f, some x, some y] S) = _
  unfold dRet
  simp only [h, sE, endOf]
theorem said_1p {x y : PV} {S : Sto} (h : F_check_alike [x, y] S = .exc "NoPromise" [] S) : F_law_two_said_L [.glb "backing_both", x, y] S = .ok (.str "promise") S := two_is (said_p (bb_exc h))
theorem said_2p {x y : PV} {S : Sto} (h : F_check_alike [x, y] S = .exc "NoPromise" [] S) : F_law_two_said_L [.glb "backed_by_both", x, y] S = .ok (.str "promise") S := two_is (said_p (bd_exc h))
theorem said_1u {x y : PV} {S : Sto} (h : F_check_alike [x, y] S = .exc "Unlike" [] S) : F_law_two_said_L [.glb "backing_both", x, y] S = .ok (.str "unlike") S := two_is (said_u (bb_exc h))
theorem said_2u {x y : PV} {S : Sto} (h : F_check_alike [x, y] S = .exc "Unlike" [] S) : F_law_two_said_L [.glb "backed_by_both", x, y] S = .ok (.str "unlike") S := two_is (said_u (bd_exc h))
end G73
end
section
set_option Elab.async false
set_option linter.all false
set_option maxRecDepth 100000
set_option maxHeartbeats 2000000
namespace G73
open PySem PySem.Spec PyProof.Rows L2 Mi

/-! ### the law -/
def L1 : EnP → Sto → SR := (dSet 1 (dCB F_law_hand_L (dCons (dV 0) (dNil))))
def L2' : EnP → Sto → SR := (dAsg (dTup (dCons (dTup (dCons (dTup (dCons (dC (.int 0)) (dCons (dC (.int 1)) (dNil)))) (dCons (dTup (dCons (dC (.int 1)) (dCons (dC (.int 1)) (dNil)))) (dCons (dTup (dCons (dC (.int 0)) (dCons (dC (.int 1)) (dNil)))) (dNil))))) (dCons (dTup (dCons (dTup (dCons (dC (.int 2)) (dCons (dC (.int 1)) (dNil)))) (dCons (dTup (dCons (dC (.int 3)) (dCons (dC (.int 1)) (dNil)))) (dCons (dTup (dCons (dC (.int 1)) (dCons (dC (.int 8)) (dNil)))) (dNil))))) (dNil)))) (gTp 2 (gsCons (gNm 2) (gsCons (gNm 3) (gsNil)))))
def L3 : EnP → Sto → SR := (dPar 4 5 (dCons (dTup (dCons (dC (.str ("a" : Str))) (dCons (dTup (dCons (dV 2) (dNil))) (dCons (dTup (dNil)) (dCons (dV 2) (dNil)))))) (dCons (dTup (dCons (dC (.str ("b" : Str))) (dCons (dTup (dCons (dV 3) (dNil))) (dCons (dTup (dNil)) (dCons (dV 3) (dNil)))))) (dNil))))
def L4 : EnP → Sto → SR := (dIfS (bOr (dB (dBin (fIsN true) (dCB F_backing_both (dCons (dV 4) (dCons (dV 5) (dNil)))) (dC .non))) (dB (dBin (fIsN true) (dCB F_backed_by_both (dCons (dV 4) (dCons (dV 5) (dNil)))) (dC .non)))) (dRet (dC (.bl false))) (dPass))
def L5 : EnP → Sto → SR := (dSet 6 (dTup (dCons (dC (.str ("b" : Str))) (dCons (dTup (dCons (dV 3) (dNil))) (dCons (dTup (dNil)) (dCons (dV 2) (dNil)))))))
def L6 : EnP → Sto → SR := (dIfS (bOr (dB (dBin (fEq true) (dCB F_backing_both (dCons (dV 4) (dCons (dV 6) (dNil)))) (dTup (dCons (dC (.str ("a" : Str))) (dCons (dTup (dCons (dTup (dCons (dTup (dCons (dC (.int 0)) (dCons (dC (.int 1)) (dNil)))) (dCons (dTup (dCons (dC (.int 3)) (dCons (dC (.int 1)) (dNil)))) (dCons (dTup (dCons (dC (.int 1)) (dCons (dC (.int 8)) (dNil)))) (dNil))))) (dNil))) (dCons (dTup (dNil)) (dCons (dV 2) (dNil)))))))) (dB (dBin (fIsN true) (dCB F_backed_by_both (dCons (dV 4) (dCons (dV 6) (dNil)))) (dC .non)))) (dRet (dC (.bl false))) (dPass))
def Lb : EnP → Sto → SR := (dSeq (dSet 8 (dCB F_law_shape_L (dCons (dV 1) (dNil)))) (dSeq (dPar 4 5 (dCons (dCB F_law_promise_L (dCons (dV 1) (dCons (dV 8) (dNil)))) (dCons (dCB F_law_promise_L (dCons (dV 1) (dCons (dV 8) (dNil)))) (dNil)))) (dSeq (dIfS (bOr (bNot (dTru (dCB F_law_pair_right_L (dCons (dV 4) (dCons (dV 5) (dNil)))))) (bNot (dTru (dCB F_law_others_right_L (dCons (dV 1) (dCons (dV 4) (dCons (dV 5) (dCons (dV 8) (dNil))))))))) (dRet (dC (.bl false))) (dPass)) (dSeq (dSet 9 (dCB F_law_promise_L (dCons (dV 1) (dCons (dCB F_law_any_L (dCons (dV 1) (dCons (dLst false (dCons (dTup (dCons (dBin (fAdd false) (dBin fIx (dV 8) (dC (.int 0))) (dC (.int 1))) (dCons (dBin fIx (dV 8) (dC (.int 1))) (dNil)))) (dCons (dTup (dCons (dBin fIx (dV 8) (dC (.int 0))) (dCons (dBin (fAdd false) (dBin fIx (dV 8) (dC (.int 1))) (dTup (dCons (dC (.int 2)) (dNil)))) (dNil)))) (dNil)))) (dNil)))) (dNil))))) (dSeq (dSet 10 (dCB F_law_any_L (dCons (dV 1) (dCons (dLst false (dCons (dC .non) (dCons (dC (.str ("?" : Str))) (dCons (dTup (dNil)) (dCons (dSl false (dV 4) (dNoPart) (dPart (dC (.int 3)))) (dCons (dBin (fAdd false) (dTup (dCons (dC (.str ("A" : Str))) (dNil))) (dSl false (dV 4) (dPart (dC (.int 1))) (dNoPart))) (dCons (dLst false (dCons (dBin fIx (dV 4) (dC (.int 0))) (dCons (dBin fIx (dV 4) (dC (.int 1))) (dCons (dBin fIx (dV 4) (dC (.int 2))) (dCons (dBin fIx (dV 4) (dC (.int 3))) (dNil)))))) (dCons (dDict0) (dNil))))))))) (dNil))))) (dSeq (dSet 11 (dLst false (dNil))) (dSeq (dFor (iSeq (dTup (dCons (dC (.glb ("backing_both" : Str))) (dCons (dC (.glb ("backed_by_both" : Str))) (dNil))))) (gNm 12) (dSet 11 (dBin (fAdd false) (dV 11) (dLst false (dCons (dCB F_law_two_said_L (dCons (dV 12) (dCons (dV 10) (dCons (dV 9) (dNil))))) (dCons (dCB F_law_two_said_L (dCons (dV 12) (dCons (dV 4) (dCons (dV 10) (dNil))))) (dCons (dCB F_law_two_said_L (dCons (dV 12) (dCons (dV 4) (dCons (dV 9) (dNil))))) (dNil)))))))) (dIfS (dB (dBin (fEq true) (dV 11) (dBin (fMul false) (dLst false (dCons (dC (.str ("promise" : Str))) (dCons (dC (.str ("promise" : Str))) (dCons (dC (.str ("unlike" : Str))) (dNil))))) (dC (.int 2))))) (dRet (dC (.bl false))) (dPass)))))))))
def T1 : EnP → Sto → SR := (dSet 8 (dCB F_law_shape_L (dCons (dV 1) (dNil))))
def T2 : EnP → Sto → SR := (dPar 4 5 (dCons (dCB F_law_promise_L (dCons (dV 1) (dCons (dV 8) (dNil)))) (dCons (dCB F_law_promise_L (dCons (dV 1) (dCons (dV 8) (dNil)))) (dNil))))
def T3 : EnP → Sto → SR := (dIfS (bOr (bNot (dTru (dCB F_law_pair_right_L (dCons (dV 4) (dCons (dV 5) (dNil)))))) (bNot (dTru (dCB F_law_others_right_L (dCons (dV 1) (dCons (dV 4) (dCons (dV 5) (dCons (dV 8) (dNil))))))))) (dRet (dC (.bl false))) (dPass))
def T4 : EnP → Sto → SR := (dSet 9 (dCB F_law_promise_L (dCons (dV 1) (dCons (dCB F_law_any_L (dCons (dV 1) (dCons (dLst false (dCons (dTup (dCons (dBin (fAdd false) (dBin fIx (dV 8) (dC (.int 0))) (dC (.int 1))) (dCons (dBin fIx (dV 8) (dC (.int 1))) (dNil)))) (dCons (dTup (dCons (dBin fIx (dV 8) (dC (.int 0))) (dCons (dBin (fAdd false) (dBin fIx (dV 8) (dC (.int 1))) (dTup (dCons (dC (.int 2)) (dNil)))) (dNil)))) (dNil)))) (dNil)))) (dNil)))))
def T5 : EnP → Sto → SR := (dSet 10 (dCB F_law_any_L (dCons (dV 1) (dCons (dLst false (dCons (dC .non) (dCons (dC (.str ("?" : Str))) (dCons (dTup (dNil)) (dCons (dSl false (dV 4) (dNoPart) (dPart (dC (.int 3)))) (dCons (dBin (fAdd false) (dTup (dCons (dC (.str ("A" : Str))) (dNil))) (dSl false (dV 4) (dPart (dC (.int 1))) (dNoPart))) (dCons (dLst false (dCons (dBin fIx (dV 4) (dC (.int 0))) (dCons (dBin fIx (dV 4) (dC (.int 1))) (dCons (dBin fIx (dV 4) (dC (.int 2))) (dCons (dBin fIx (dV 4) (dC (.int 3))) (dNil)))))) (dCons (dDict0) (dNil))))))))) (dNil)))))
def T6 : EnP → Sto → SR := (dSet 11 (dLst false (dNil)))
def T7 : EnP → Sto → SR := (dFor (iSeq (dTup (dCons (dC (.glb ("backing_both" : Str))) (dCons (dC (.glb ("backed_by_both" : Str))) (dNil))))) (gNm 12) (dSet 11 (dBin (fAdd false) (dV 11) (dLst false (dCons (dCB F_law_two_said_L (dCons (dV 12) (dCons (dV 10) (dCons (dV 9) (dNil))))) (dCons (dCB F_law_two_said_L (dCons (dV 12) (dCons (dV 4) (dCons (dV 10) (dNil))))) (dCons (dCB F_law_two_said_L (dCons (dV 12) (dCons (dV 4) (dCons (dV 9) (dNil))))) (dNil))))))))
def T7b : EnP → Sto → SR := (dSet 11 (dBin (fAdd false) (dV 11) (dLst false (dCons (dCB F_law_two_said_L (dCons (dV 12) (dCons (dV 10) (dCons (dV 9) (dNil))))) (dCons (dCB F_law_two_said_L (dCons (dV 12) (dCons (dV 4) (dCons (dV 10) (dNil))))) (dCons (dCB F_law_two_said_L (dCons (dV 12) (dCons (dV 4) (dCons (dV 9) (dNil))))) (dNil)))))))
def T8 : EnP → Sto → SR := (dIfS (dB (dBin (fEq true) (dV 11) (dBin (fMul false) (dLst false (dCons (dC (.str ("promise" : Str))) (dCons (dC (.str ("promise" : Str))) (dCons (dC (.str ("unlike" : Str))) (dNil))))) (dC (.int 2))))) (dRet (dC (.bl false))) (dPass))
theorem law_parts : d_law = dSeq L1 (dSeq L2' (dSeq L3 (dSeq L4 (dSeq L5 (dSeq L6 (dSeq (dFor (iRange (dCons (dC (.int 5)) (dNil))) (gNm 7) Lb) (dRet (dC (.bl true))))))))) := rfl
theorem Lb_parts : Lb = dSeq T1 (dSeq T2 (dSeq T3 (dSeq T4 (dSeq T5 (dSeq T6 (dSeq T7 T8)))))) := rfl
theorem T7_is : T7 = dFor (iSeq (dTup (dCons (dC (.glb ("backing_both" : Str))) (dCons (dC (.glb ("backed_by_both" : Str))) (dNil))))) (gNm 12) T7b := rfl
def uH : Hd := ⟨(0, 1), (1, 1), (0, 1)⟩
def fH : Hd := ⟨(2, 1), (3, 1), (1, 8)⟩
def oneP : Pm := ⟨"a", [uH], [], uH⟩
def othP : Pm := ⟨"b", [fH], [], fH⟩
def samP : Pm := ⟨"b", [fH], [], uH⟩
def dueP : Pm := ⟨"a", [⟨(0, 1), (3, 1), (1, 8)⟩], [], uH⟩
theorem uH_ok : HOk uH := ⟨⟨by decide, by decide, by decide, by decide⟩, ⟨by decide, by decide, by decide, by decide⟩, ⟨by decide, by decide, by decide, by decide⟩, by decide, by decide⟩
theorem fH_ok : HOk fH := ⟨⟨by decide, by decide, by decide, by decide⟩, ⟨by decide, by decide, by decide, by decide⟩, ⟨by decide, by decide, by decide, by decide⟩, by decide, by decide⟩
theorem one_h {h : Hd} (k : HOk h) : ∀ x ∈ [h], HOk x := fun x hx => by rw [List.mem_singleton.mp hx]; exact k
theorem oneP_ok : POk oneP := ⟨by decide +kernel, by decide, one_h uH_ok, by decide, (fun r h => by cases h), uH_ok⟩
theorem othP_ok : POk othP := ⟨by decide +kernel, by decide, one_h fH_ok, by decide, (fun r h => by cases h), fH_ok⟩
theorem samP_ok : POk samP := ⟨by decide +kernel, by decide, one_h fH_ok, by decide, (fun r h => by cases h), uH_ok⟩
theorem dueP_ok : POk dueP := ⟨by decide +kernel, by decide, one_h ⟨⟨by decide, by decide, by decide, by decide⟩, ⟨by decide, by decide, by decide, by decide⟩, ⟨by decide, by decide, by decide, by decide⟩, by decide, by decide⟩, by decide, (fun r h => by cases h), uH_ok⟩
theorem fold_u : PV.tup [PV.tup [.int 0, .int 1], PV.tup [.int 1, .int 1], PV.tup [.int 0, .int 1]] = eH uH := rfl
theorem fold_f : PV.tup [PV.tup [.int 2, .int 1], PV.tup [.int 3, .int 1], PV.tup [.int 1, .int 8]] = eH fH := rfl
theorem fold_1 : PV.tup [.str "a", .tup [eH uH], .tup [], eH uH] = eP oneP := rfl
theorem fold_2 : PV.tup [.str "b", .tup [eH fH], .tup [], eH fH] = eP othP := rfl
theorem fold_3 : PV.tup [.str "b", .tup [eH fH], .tup [], eH uH] = eP samP := rfl
theorem fold_4 : PV.tup [.str "a", .tup [PV.tup [PV.tup [.int 0, .int 1], PV.tup [.int 3, .int 1], PV.tup [.int 1, .int 8]]], .tup [], eH uH] = eP dueP := rfl
section
variable {s h : Option PV} {x4 x5 x6 x7 x8 x9 x10 x11 x12 : Option PV} {S : Sto}
theorem r_L2 : L2' [s, h, none, none, x4, x5, x6, x7, x8, x9, x10, x11, x12] S = .nx [s, h, some (eH uH), some (eH fH), x4, x5, x6, x7, x8, x9, x10, x11, x12] S := rfl
theorem r_L3 : L3 [s, h, some (eH uH), some (eH fH), x4, x5, x6, x7, x8, x9, x10, x11, x12] S = .nx [s, h, some (eH uH), some (eH fH), some (eP oneP), some (eP othP), x6, x7, x8, x9, x10, x11, x12] S := rfl
theorem r_L5 : L5 [s, h, some (eH uH), some (eH fH), x4, x5, x6, x7, x8, x9, x10, x11, x12] S = .nx [s, h, some (eH uH), some (eH fH), x4, x5, some (eP samP), x7, x8, x9, x10, x11, x12] S := rfl
theorem r_L4 {u f : Option PV} : L4 [s, h, u, f, some (eP oneP), some (eP othP), x6, x7, x8, x9, x10, x11, x12] S = .nx [s, h, u, f, some (eP oneP), some (eP othP), x6, x7, x8, x9, x10, x11, x12] S := by
  have a : al oneP othP = true := by decide
  have e1 := fun S => e_backing (S := S) oneP_ok othP_ok a
  have e2 := fun S => e_backed (S := S) oneP_ok othP_ok a
  have b1 : bb oneP othP = none := by decide
  have b2 : bd oneP othP = none := by decide
  rw [b1] at e1
  rw [b2] at e2
  simp [L4, runF, startP, endOf, dRet, dRetN, dIf, dIfS, dB, dBin, dUn, dV, dC, sE, asB, dSeq, dSet, dPar, dPar3, dAsg, dExpr, dAnd, dOr, dNot, bAnd, bOr, bNot, dTru, dCB, dCons, dNil, dTup, dLst, dChain, dPass, fCmpI, fIsN, gTp, gsCons, gsNil, gNm, mkTup, dSl, dPart, dNoPart, lim, iLt, iLe, iGt, iGe, e1, e2, eOP, isN_n]
theorem r_L6 {f : Option PV} : L6 [s, h, some (eH uH), f, some (eP oneP), x5, some (eP samP), x7, x8, x9, x10, x11, x12] S = .nx [s, h, some (eH uH), f, some (eP oneP), x5, some (eP samP), x7, x8, x9, x10, x11, x12] S := by
  have a : al oneP samP = true := by decide
  have e1 := fun S => e_backing (S := S) oneP_ok samP_ok a
  have e2 := fun S => e_backed (S := S) oneP_ok samP_ok a
  have b1 : bb oneP samP = some dueP := by decide +kernel
  have b2 : bd oneP samP = none := by decide
  rw [b1] at e1
  rw [b2] at e2
  have q := fun S => eq_p (neg := true) (S := S) dueP_ok dueP_ok
  simp [L6, runF, startP, endOf, dRet, dRetN, dIf, dIfS, dB, dBin, dUn, dV, dC, sE, asB, dSeq, dSet, dPar, dPar3, dAsg, dExpr, dAnd, dOr, dNot, bAnd, bOr, bNot, dTru, dCB, dCons, dNil, dTup, dLst, dChain, dPass, fCmpI, fIsN, gTp, gsCons, gsNil, gNm, mkTup, dSl, dPart, dNoPart, lim, iLt, iLe, iGt, iGe, e1, e2, eOP, isN_n, fold_4, q]
variable {b : Int}
theorem r_T1 {u f sm : Option PV} (hk : Hk b S) (hb : b ≤ 999980000) : ∃ m ls S', T1 [s, some (.ref 0), u, f, x4, x5, sm, x7, x8, x9, x10, x11, x12] S = .nx [s, some (.ref 0), u, f, x4, x5, sm, x7, some (eSh m ls), x9, x10, x11, x12] S' ∧ ShOk m ls ∧ m ≤ 2 ∧ ls.length ≤ 2 ∧ Hk (b + 5) S' := by
  obtain ⟨m, ls, S', e, a, c, d, k⟩ := e_shape hk hb
  exact ⟨m, ls, S', by simp [T1, runF, startP, endOf, dRet, dRetN, dIf, dIfS, dB, dBin, dUn, dV, dC, sE, asB, dSeq, dSet, dPar, dPar3, dAsg, dExpr, dAnd, dOr, dNot, bAnd, bOr, bNot, dTru, dCB, dCons, dNil, dTup, dLst, dChain, dPass, fCmpI, fIsN, gTp, gsCons, gsNil, gNm, mkTup, dSl, dPart, dNoPart, lim, iLt, iLe, iGt, iGe, e], a, c, d, k⟩
variable {m : Int} {ls : List Int} {u f sm : Option PV}
theorem r_T2 (hk : Hk b S) (hb : b ≤ 999000000) (hs : ShOk m ls) : ∃ p q S', T2 [s, some (.ref 0), u, f, x4, x5, sm, x7, some (eSh m ls), x9, x10, x11, x12] S = .nx [s, some (.ref 0), u, f, some (eP p), some (eP q), sm, x7, some (eSh m ls), x9, x10, x11, x12] S' ∧
    (POk p ∧ p.ins.length = m.toNat ∧ heads p.rows = ls) ∧ (POk q ∧ q.ins.length = m.toNat ∧ heads q.rows = ls) ∧ Hk (b + 200) S' := by
  obtain ⟨p, S1, e1, a1, c1, d1, k1⟩ := e_promise_draw hk (by omega) hs
  obtain ⟨q, S2, e2, a2, c2, d2, k2⟩ := e_promise_draw k1 (by omega) hs
  exact ⟨p, q, S2, by simp [T2, runF, startP, endOf, dRet, dRetN, dIf, dIfS, dB, dBin, dUn, dV, dC, sE, asB, dSeq, dSet, dPar, dPar3, dAsg, dExpr, dAnd, dOr, dNot, bAnd, bOr, bNot, dTru, dCB, dCons, dNil, dTup, dLst, dChain, dPass, fCmpI, fIsN, gTp, gsCons, gsNil, gNm, mkTup, dSl, dPart, dNoPart, lim, iLt, iLe, iGt, iGe, e1, e2], ⟨a1, c1, d1⟩, ⟨a2, c2, d2⟩, k2.mono (by omega)⟩
theorem r_T3 {p q : Pm} (hk : Hk b S) (hb : b ≤ 999000000) (hs : ShOk m ls) (hp : POk p ∧ p.ins.length = m.toNat ∧ heads p.rows = ls) (hq : POk q ∧ q.ins.length = m.toNat ∧ heads q.rows = ls) :
    ∃ S', T3 [s, some (.ref 0), u, f, some (eP p), some (eP q), sm, x7, some (eSh m ls), x9, x10, x11, x12] S = .nx [s, some (.ref 0), u, f, some (eP p), some (eP q), sm, x7, some (eSh m ls), x9, x10, x11, x12] S' ∧ Hk (b + 1616) S' := by
  obtain ⟨a1, c1, d1⟩ := hp
  obtain ⟨a2, c2, d2⟩ := hq
  have ha := al_of c1 d1 c2 d2
  obtain ⟨r, e1⟩ := e_pair a1 a2 ha S
  obtain ⟨S2, e2, k2⟩ := e_others (hk.more r) hb hs a1 a2 c1 d1 ha
  exact ⟨S2, by simp [T3, runF, startP, endOf, dRet, dRetN, dIf, dIfS, dB, dBin, dUn, dV, dC, sE, asB, dSeq, dSet, dPar, dPar3, dAsg, dExpr, dAnd, dOr, dNot, bAnd, bOr, bNot, dTru, dCB, dCons, dNil, dTup, dLst, dChain, dPass, fCmpI, fIsN, gTp, gsCons, gsNil, gNm, mkTup, dSl, dPart, dNoPart, lim, iLt, iLe, iGt, iGe, e1, e2, truP], k2⟩
theorem add_ls {ls : List Int} {S : Sto} (h : ls.length ≤ 2) : fAdd false (.tup (ls.map PV.int)) (.tup [.int 2]) S = .ok (.tup (ls.map PV.int ++ [.int 2])) S := by
  show mkTup (ls.map PV.int ++ [PV.int 2]) S = _
  unfold mkTup
  rw [if_pos (by simp [lim]; omega)]
theorem r_T4 {p : Pm} (hk : Hk b S) (hb : b ≤ 999000000) (hs : ShOk m ls) (hm : m ≤ 2) (hl : ls.length ≤ 2) (hp : POk p ∧ p.ins.length = m.toNat ∧ heads p.rows = ls) :
    ∃ o S', T4 [s, some (.ref 0), u, f, x4, x5, sm, x7, some (eSh m ls), x9, x10, x11, x12] S = .nx [s, some (.ref 0), u, f, x4, x5, sm, x7, some (eSh m ls), some (eP o), x10, x11, x12] S' ∧ POk o ∧ al p o = false ∧ Hk (b + 101) S' := by
  have m0 := hs.m0
  obtain ⟨y, hy, S1, e1, k1⟩ := e_any (xs := [eSh (m + 1) ls, eSh m (ls ++ [2])]) hk (by omega) (Nat.succ_pos _) (by simp)
  have sh : ∃ m' ls', y = eSh m' ls' ∧ ShOk m' ls' ∧ (m'.toNat ≠ m.toNat ∨ ls' ≠ ls) := by
    simp only [List.mem_cons, List.not_mem_nil, or_false] at hy
    rcases hy with rfl | rfl
    · exact ⟨m + 1, ls, rfl, ⟨by omega, by omega, hs.l, hs.r⟩, Or.inl (by omega)⟩
    · refine ⟨m, ls ++ [2], rfl, ⟨m0, hs.m1, by simp; omega, ?_⟩, Or.inr (fun h => ?_)⟩
      · intro x hx
        rcases List.mem_append.mp hx with h | h
        · exact hs.r x h
        · rw [List.mem_singleton.mp h]; decide
      · have := congrArg List.length h
        simp at this
  obtain ⟨m', ls', rfl, hs', ne⟩ := sh
  obtain ⟨o, S2, e2, a2, c2, d2, k2⟩ := e_promise_draw k1 (by omega) hs'
  refine ⟨o, S2, ?_, a2, ?_, k2.mono (by omega)⟩
  · have ad := fun S => add_ls (S := S) hl
    have f1 : PV.tup [.int (m + 1), .tup (ls.map .int)] = eSh (m + 1) ls := rfl
    have f2 : PV.tup [.int m, .tup (ls.map .int ++ [.int 2])] = eSh m (ls ++ [2]) := by unfold eSh; simp
    have e3 : dLst false (dCons (dTup (dCons (dBin (fAdd false) (dBin fIx (dV 8) (dC (.int 0))) (dC (.int 1))) (dCons (dBin fIx (dV 8) (dC (.int 1))) (dNil)))) (dCons (dTup (dCons (dBin fIx (dV 8) (dC (.int 0))) (dCons (dBin (fAdd false) (dBin fIx (dV 8) (dC (.int 1))) (dTup (dCons (dC (.int 2)) (dNil)))) (dNil)))) (dNil))) [s, some (.ref 0), u, f, x4, x5, sm, x7, some (eSh m ls), x9, x10, x11, x12] S = .ok (.nl [eSh (m + 1) ls, eSh m (ls ++ [2])]) S := by
      simp [runF, startP, endOf, dRet, dRetN, dIf, dIfS, dB, dBin, dUn, dV, dC, sE, asB, dSeq, dSet, dPar, dPar3, dAsg, dExpr, dAnd, dOr, dNot, bAnd, bOr, bNot, dTru, dCB, dCons, dNil, dTup, dLst, dChain, dPass, fCmpI, fIsN, gTp, gsCons, gsNil, gNm, mkTup, dSl, dPart, dNoPart, lim, iLt, iLe, iGt, iGe, ix_s0, ix_s1, add_int, ad, mkLst, f1, f2]
    have q : T4 = dSet 9 (dCB F_law_promise_L (dCons (dV 1) (dCons (dCB F_law_any_L (dCons (dV 1) (dCons (dLst false (dCons (dTup (dCons (dBin (fAdd false) (dBin fIx (dV 8) (dC (.int 0))) (dC (.int 1))) (dCons (dBin fIx (dV 8) (dC (.int 1))) (dNil)))) (dCons (dTup (dCons (dBin fIx (dV 8) (dC (.int 0))) (dCons (dBin (fAdd false) (dBin fIx (dV 8) (dC (.int 1))) (dTup (dCons (dC (.int 2)) (dNil)))) (dNil)))) (dNil)))) (dNil)))) (dNil)))) := rfl
    rw [q]
    generalize (dLst false (dCons (dTup (dCons (dBin (fAdd false) (dBin fIx (dV 8) (dC (.int 0))) (dC (.int 1))) (dCons (dBin fIx (dV 8) (dC (.int 1))) (dNil)))) (dCons (dTup (dCons (dBin fIx (dV 8) (dC (.int 0))) (dCons (dBin (fAdd false) (dBin fIx (dV 8) (dC (.int 1))) (dTup (dCons (dC (.int 2)) (dNil)))) (dNil)))) (dNil)))) = dl at e3
    simp [runF, startP, endOf, dRet, dRetN, dIf, dIfS, dB, dBin, dUn, dV, dC, sE, asB, dSeq, dSet, dPar, dPar3, dAsg, dExpr, dAnd, dOr, dNot, bAnd, bOr, bNot, dTru, dCB, dCons, dNil, dTup, dLst, dChain, dPass, fCmpI, fIsN, gTp, gsCons, gsNil, gNm, mkTup, dSl, dPart, dNoPart, lim, iLt, iLe, iGt, iGe, e3, e1, e2]
  · obtain ⟨a1, c1, d1⟩ := hp
    unfold al
    rw [c1, d1, c2, d2]
    rcases ne with h | h
    · have : ¬ (m.toNat = m'.toNat) := fun e => h e.symm
      rw [decide_eq_false this]
      rfl
    · have : ¬ (ls = ls') := fun e => h e.symm
      rw [decide_eq_false this, Bool.and_false]
theorem r_T5 {p : Pm} (hk : Hk b S) (hb : b ≤ 999000000) :
    ∃ x S', T5 [s, some (.ref 0), u, f, some (eP p), x5, sm, x7, x8, x9, x10, x11, x12] S = .nx [s, some (.ref 0), u, f, some (eP p), x5, sm, x7, x8, x9, some x, x11, x12] S' ∧ Bad x ∧ Hk (b + 1) S' := by
  obtain ⟨y, hy, S1, e1, k1⟩ := e_any (xs := [.non, .str "?", .tup [], .tup [.str p.nm, .tup (p.ins.map eH), .tup (p.rows.map eR)], .tup [.str "A", .tup (p.ins.map eH), .tup (p.rows.map eR), eH p.out], .nl [.str p.nm, .tup (p.ins.map eH), .tup (p.rows.map eR), eH p.out], .nd [] []]) hk (by omega) (Nat.succ_pos _) (by simp)
  refine ⟨y, S1, ?_, ?_, k1⟩
  · have e3 : dLst false (dCons (dC .non) (dCons (dC (.str ("?" : Str))) (dCons (dTup (dNil)) (dCons (dSl false (dV 4) (dNoPart) (dPart (dC (.int 3)))) (dCons (dBin (fAdd false) (dTup (dCons (dC (.str ("A" : Str))) (dNil))) (dSl false (dV 4) (dPart (dC (.int 1))) (dNoPart))) (dCons (dLst false (dCons (dBin fIx (dV 4) (dC (.int 0))) (dCons (dBin fIx (dV 4) (dC (.int 1))) (dCons (dBin fIx (dV 4) (dC (.int 2))) (dCons (dBin fIx (dV 4) (dC (.int 3))) (dNil)))))) (dCons (dDict0) (dNil)))))))) [s, some (.ref 0), u, f, some (eP p), x5, sm, x7, x8, x9, x10, x11, x12] S = .ok (.nl [.non, .str "?", .tup [], .tup [.str p.nm, .tup (p.ins.map eH), .tup (p.rows.map eR)], .tup [.str "A", .tup (p.ins.map eH), .tup (p.rows.map eR), eH p.out], .nl [.str p.nm, .tup (p.ins.map eH), .tup (p.rows.map eR), eH p.out], .nd [] []]) S := rfl
    have q : T5 = dSet 10 (dCB F_law_any_L (dCons (dV 1) (dCons (dLst false (dCons (dC .non) (dCons (dC (.str ("?" : Str))) (dCons (dTup (dNil)) (dCons (dSl false (dV 4) (dNoPart) (dPart (dC (.int 3)))) (dCons (dBin (fAdd false) (dTup (dCons (dC (.str ("A" : Str))) (dNil))) (dSl false (dV 4) (dPart (dC (.int 1))) (dNoPart))) (dCons (dLst false (dCons (dBin fIx (dV 4) (dC (.int 0))) (dCons (dBin fIx (dV 4) (dC (.int 1))) (dCons (dBin fIx (dV 4) (dC (.int 2))) (dCons (dBin fIx (dV 4) (dC (.int 3))) (dNil)))))) (dCons (dDict0) (dNil))))))))) (dNil)))) := rfl
    rw [q]
    generalize (dLst false (dCons (dC .non) (dCons (dC (.str ("?" : Str))) (dCons (dTup (dNil)) (dCons (dSl false (dV 4) (dNoPart) (dPart (dC (.int 3)))) (dCons (dBin (fAdd false) (dTup (dCons (dC (.str ("A" : Str))) (dNil))) (dSl false (dV 4) (dPart (dC (.int 1))) (dNoPart))) (dCons (dLst false (dCons (dBin fIx (dV 4) (dC (.int 0))) (dCons (dBin fIx (dV 4) (dC (.int 1))) (dCons (dBin fIx (dV 4) (dC (.int 2))) (dCons (dBin fIx (dV 4) (dC (.int 3))) (dNil)))))) (dCons (dDict0) (dNil))))))))) = dl at e3
    simp [runF, startP, endOf, dRet, dRetN, dIf, dIfS, dB, dBin, dUn, dV, dC, sE, asB, dSeq, dSet, dPar, dPar3, dAsg, dExpr, dAnd, dOr, dNot, bAnd, bOr, bNot, dTru, dCB, dCons, dNil, dTup, dLst, dChain, dPass, fCmpI, fIsN, gTp, gsCons, gsNil, gNm, mkTup, dSl, dPart, dNoPart, lim, iLt, iLe, iGt, iGe, e3, e1]
  · simp only [List.mem_cons, List.not_mem_nil, or_false] at hy
    rcases hy with rfl | rfl | rfl | rfl | rfl | rfl | rfl
    · exact bad_none
    · exact bad_str
    · exact bad_0
    · exact bad_3 _ _ _
    · exact bad_A _ _ _
    · exact bad_l _
    · exact bad_d
theorem r_T6 : T6 [s, h, u, f, x4, x5, sm, x7, x8, x9, x10, x11, x12] S = .nx [s, h, u, f, x4, x5, sm, x7, x8, x9, x10, some (.nl []), x12] S := rfl
theorem add_nl (xs ys : List PV) (S : Sto) (hl : (xs ++ ys).length ≤ lim) : fAdd false (.nl xs) (.nl ys) S = .ok (.nl (xs ++ ys)) S := by
  show mkLst false (xs ++ ys) S = _
  unfold mkLst
  rw [if_pos hl]
  rfl
theorem r_T7 {p o : Pm} {x : PV} (hp : POk p) (ho : POk o) (ha : al p o = false) (hx : Bad x) :
    ∃ y, T7 [s, h, u, f, some (eP p), x5, sm, x7, x8, some (eP o), some x, some (.nl []), x12] S = .nx [s, h, u, f, some (eP p), x5, sm, x7, x8, some (eP o), some x, some (.nl [.str "promise", .str "promise", .str "unlike", .str "promise", .str "promise", .str "unlike"]), y] S := by
  refine ⟨some (.glb "backed_by_both"), ?_⟩
  have a1 := fun S => said_1p (both_1 (y := eP o) hx S)
  have a2 := fun S => said_1p (both_2 hp hx S)
  have a3 := fun S => said_1u (e_chk_no (S := S) hp ho ha)
  have b1 := fun S => said_2p (both_1 (y := eP o) hx S)
  have b2 := fun S => said_2p (both_2 hp hx S)
  have b3 := fun S => said_2u (e_chk_no (S := S) hp ho ha)
  have e1 : ∀ S, T7b [s, h, u, f, some (eP p), x5, sm, x7, x8, some (eP o), some x, some (.nl []), some (.glb "backing_both")] S = .nx [s, h, u, f, some (eP p), x5, sm, x7, x8, some (eP o), some x, some (.nl [.str "promise", .str "promise", .str "unlike"]), some (.glb "backing_both")] S := fun S => by
    have ad := fun S => add_nl [] [.str "promise", .str "promise", .str "unlike"] S (by decide)
    rw [List.nil_append] at ad
    simp [T7b, runF, startP, endOf, dRet, dRetN, dIf, dIfS, dB, dBin, dUn, dV, dC, sE, asB, dSeq, dSet, dPar, dPar3, dAsg, dExpr, dAnd, dOr, dNot, bAnd, bOr, bNot, dTru, dCB, dCons, dNil, dTup, dLst, dChain, dPass, fCmpI, fIsN, gTp, gsCons, gsNil, gNm, mkTup, dSl, dPart, dNoPart, lim, iLt, iLe, iGt, iGe, mkLst, a1, a2, a3, ad]
  have e2 : ∀ S, T7b [s, h, u, f, some (eP p), x5, sm, x7, x8, some (eP o), some x, some (.nl [.str "promise", .str "promise", .str "unlike"]), some (.glb "backed_by_both")] S = .nx [s, h, u, f, some (eP p), x5, sm, x7, x8, some (eP o), some x, some (.nl [.str "promise", .str "promise", .str "unlike", .str "promise", .str "promise", .str "unlike"]), some (.glb "backed_by_both")] S := fun S => by
    have ad := fun S => add_nl [.str "promise", .str "promise", .str "unlike"] [.str "promise", .str "promise", .str "unlike"] S (by simp [lim])
    simp [T7b, runF, startP, endOf, dRet, dRetN, dIf, dIfS, dB, dBin, dUn, dV, dC, sE, asB, dSeq, dSet, dPar, dPar3, dAsg, dExpr, dAnd, dOr, dNot, bAnd, bOr, bNot, dTru, dCB, dCons, dNil, dTup, dLst, dChain, dPass, fCmpI, fIsN, gTp, gsCons, gsNil, gNm, mkTup, dSl, dPart, dNoPart, lim, iLt, iLe, iGt, iGe, mkLst, b1, b2, b3, ad]
  have i : ∀ ρ S, iSeq (dTup (dCons (dC (.glb ("backing_both" : Str))) (dCons (dC (.glb ("backed_by_both" : Str))) (dNil)))) ρ S = .ok [.glb "backing_both", .glb "backed_by_both"] S := fun _ _ => rfl
  rw [T7_is]
  simp only [dFor, i, sE, forP, gNm, List.set_cons_succ, List.set_cons_zero, e1, e2]
theorem r_T8 : T8 [s, h, u, f, x4, x5, sm, x7, x8, x9, x10, some (.nl [.str "promise", .str "promise", .str "unlike", .str "promise", .str "promise", .str "unlike"]), x12] S = .nx [s, h, u, f, x4, x5, sm, x7, x8, x9, x10, some (.nl [.str "promise", .str "promise", .str "unlike", .str "promise", .str "promise", .str "unlike"]), x12] S := by
  have m : ∀ S, fMul false (.nl [.str "promise", .str "promise", .str "unlike"]) (.int 2) S = .ok (.nl [.str "promise", .str "promise", .str "unlike", .str "promise", .str "promise", .str "unlike"]) S := fun S => rfl
  have q : ∀ S, fEq true (.nl [.str "promise", .str "promise", .str "unlike", .str "promise", .str "promise", .str "unlike"]) (.nl [.str "promise", .str "promise", .str "unlike", .str "promise", .str "promise", .str "unlike"]) S = .ok (.bl false) S := fun S => by
    have t : toDS (.nl [.str "promise", .str "promise", .str "unlike", .str "promise", .str "promise", .str "unlike"]) S = some (.list [.str "promise", .str "promise", .str "unlike", .str "promise", .str "promise", .str "unlike"]) := rfl
    have sh : SeqAt.shaped (.list [.str "promise", .str "promise", .str "unlike", .str "promise", .str "promise", .str "unlike"]) = true := by decide +kernel
    rw [eq_dat t t sh sh]
    simp [PyData.eqv, PyData.eqvAll]
  simp [T8, runF, startP, endOf, dRet, dRetN, dIf, dIfS, dB, dBin, dUn, dV, dC, sE, asB, dSeq, dSet, dPar, dPar3, dAsg, dExpr, dAnd, dOr, dNot, bAnd, bOr, bNot, dTru, dCB, dCons, dNil, dTup, dLst, dChain, dPass, fCmpI, fIsN, gTp, gsCons, gsNil, gNm, mkTup, dSl, dPart, dNoPart, lim, iLt, iLe, iGt, iGe, mkLst, m, q]
theorem r_Lb (hk : Hk b S) (hb : b ≤ 998000000) : ∃ y4 y5 y8 y9 y10 y11 y12 S', Lb [s, some (.ref 0), u, f, x4, x5, sm, x7, x8, x9, x10, x11, x12] S = .nx [s, some (.ref 0), u, f, y4, y5, sm, x7, y8, y9, y10, y11, y12] S' ∧ Hk (b + 2000) S' := by
  obtain ⟨m, ls, S1, e1, hs, hm, hl, k1⟩ := r_T1 (s := s) (u := u) (f := f) (x4 := x4) (x5 := x5) (sm := sm) (x7 := x7) (x8 := x8) (x9 := x9) (x10 := x10) (x11 := x11) (x12 := x12) hk (by omega)
  obtain ⟨p, q, S2, e2, hp, hq, k2⟩ := r_T2 (s := s) (u := u) (f := f) (x4 := x4) (x5 := x5) (sm := sm) (x7 := x7) (x9 := x9) (x10 := x10) (x11 := x11) (x12 := x12) k1 (by omega) hs
  obtain ⟨S3, e3, k3⟩ := r_T3 (s := s) (u := u) (f := f) (sm := sm) (x7 := x7) (x9 := x9) (x10 := x10) (x11 := x11) (x12 := x12) k2 (by omega) hs hp hq
  obtain ⟨o, S4, e4, ho, ha, k4⟩ := r_T4 (s := s) (u := u) (f := f) (x4 := some (eP p)) (x5 := some (eP q)) (sm := sm) (x7 := x7) (x9 := x9) (x10 := x10) (x11 := x11) (x12 := x12) k3 (by omega) hs hm hl hp
  obtain ⟨x, S5, e5, hx, k5⟩ := r_T5 (s := s) (u := u) (f := f) (p := p) (x5 := some (eP q)) (sm := sm) (x7 := x7) (x8 := some (eSh m ls)) (x9 := some (eP o)) (x10 := x10) (x11 := x11) (x12 := x12) k4 (by omega)
  obtain ⟨y, e7⟩ := r_T7 (s := s) (h := some (.ref 0)) (u := u) (f := f) (x5 := some (eP q)) (sm := sm) (x7 := x7) (x8 := some (eSh m ls)) (x12 := x12) (S := S5) hp.1 ho ha hx
  refine ⟨some (eP p), some (eP q), some (eSh m ls), some (eP o), some x, some (.nl [.str "promise", .str "promise", .str "unlike", .str "promise", .str "promise", .str "unlike"]), y, S5, ?_, k5.mono (by omega)⟩
  · rw [Lb_parts]
    simp only [dSeq, e1, e2, e3, e4, e5, r_T6, e7, r_T8]
theorem r_loop : ∀ (xs : List PV) (b : Int) (S : Sto) (x4 x5 x7 x8 x9 x10 x11 x12 : Option PV), Hk b S → b + 2000 * xs.length ≤ 998000000 →
    ∃ y S', forP (gNm 7) Lb xs [s, some (.ref 0), u, f, x4, x5, sm, x7, x8, x9, x10, x11, x12] S = .nx y S'
  | [], b, S, x4, x5, x7, x8, x9, x10, x11, x12, h, _ => ⟨_, S, rfl⟩
  | x :: xs, b, S, x4, x5, x7, x8, x9, x10, x11, x12, h, hb => by
    rw [List.length_cons] at hb
    obtain ⟨y4, y5, y8, y9, y10, y11, y12, S1, e1, h1⟩ := r_Lb (s := s) (u := u) (f := f) (x4 := x4) (x5 := x5) (sm := sm) (x7 := some x) (x8 := x8) (x9 := x9) (x10 := x10) (x11 := x11) (x12 := x12) h (by omega)
    obtain ⟨z, S2, e2⟩ := r_loop xs (b + 2000) S1 y4 y5 (some x) y8 y9 y10 y11 y12 h1 (by omega)
    refine ⟨z, S2, ?_⟩
    rw [forP]
    simp only [gNm, sE, List.set_cons_succ, List.set_cons_zero, e1, e2]
end
theorem law_true : ∀ ns : List Int, ns.length ≤ 63 → (∀ z ∈ ns, PySem.Builtin.Int.intBits z ≤ 1048576) → ∃ S1, F_law [.fl (ns.map .int)] [] = .ok (.bl true) S1 := fun ns hl _ => by
  obtain ⟨S1, e1, k1⟩ := e_hand hl
  have q1 : L1 (startP 13 [.fl (ns.map .int)]) [] = .nx [some (.fl (ns.map .int)), some (.ref 0), none, none, none, none, none, none, none, none, none, none, none] S1 := by
    simp [L1, runF, startP, endOf, dRet, dRetN, dIf, dIfS, dB, dBin, dUn, dV, dC, sE, asB, dSeq, dSet, dPar, dPar3, dAsg, dExpr, dAnd, dOr, dNot, bAnd, bOr, bNot, dTru, dCB, dCons, dNil, dTup, dLst, dChain, dPass, fCmpI, fIsN, gTp, gsCons, gsNil, gNm, mkTup, dSl, dPart, dNoPart, lim, iLt, iLe, iGt, iGe, e1]
  obtain ⟨y, S2, e2⟩ := r_loop (s := some (.fl (ns.map .int))) (u := some (eH uH)) (f := some (eH fH)) (sm := some (eP samP)) (Mi.upTo 0 5) 0 S1 (some (eP oneP)) (some (eP othP)) none none none none none none k1 (by show (0 : Int) + 2000 * 5 ≤ _; omega)
  refine ⟨S2, ?_⟩
  have r1 : ∀ ρ S, iRange (dCons (dC (.int 5)) (dNil)) ρ S = .ok (Mi.upTo 0 5) S := fun _ _ => rfl
  unfold F_law runF
  rw [law_parts]
  simp only [dSeq, List.length_cons, List.length_nil, if_true, Nat.reduceAdd, q1, r_L2, r_L3, r_L4, r_L5, r_L6, dFor, r1, sE, e2, dRet, dC, endOf]
end G73
end
section
set_option Elab.async false
set_option linter.all false
set_option maxRecDepth 100000
open PySem PySem.W PyProof.Rows Mi
set_option maxHeartbeats 0
open_top hd73 for PySem.Challenge.rw_roundwarrant_k73_whole_backing_of_both
abbrev G73.cs : List Lt := ([⟨337, 333, "_law_two_said.<locals>.<lambda>"⟩] : List Lt)
abbrev G73.eA : List (Str × Addr) := [("RoundError", 24), ("NoHold", 37), ("NoPromise", 49), ("Unlike", 61)]
theorem G73.top_ok {w : World} {mg : Str → Option Value} {fa : Addr} {h : Heap} {p0 : Program} (KX : (hd73.heap_39 w.params).In h) (G : h.Ns mainGlobals mg) (XX : PySem.W.XL p0 [("FIFTY", PySem.W.WData.int 100000000000000000000000000000000000000000000000000)] mg h) (hT : ∀ c ∈ G73.cs, h.get? c.tab = some T0) (hmg : mg "law" = some (.ref fa))
    (math : ∀ ns : List Int, ns.length ≤ 63 → (∀ z ∈ ns, Builtin.Int.intBits z ≤ 1048576) → ∃ S1, G73.F_law [.fl (ns.map .int)] [] = .ok (.bl true) S1) :
    ∃ (cs : List Lt) (Ff : List PV → Sto → Res PV), (∀ c ∈ cs, h.get? c.tab = some T0) ∧ (∀ c ∈ cs, (hd73.heap_39 w.params).lookup c.tab = none) ∧ (∀ c ∈ cs, PySem.W.CodeHd h c.code c.tab) ∧
      (∀ base : Heap, (hd73.heap_39 w.params).In base → base.Ns mainGlobals mg → (∀ c ∈ cs, LamX.TabB base mg c.code c.tab) → FA ⟨PySem.Challenge.rw_roundwarrant_k73_whole_backing_of_both.prog, w, (hd73.heap_39 w.params), mg, base, tabOf cs⟩ 24 fa Ff) ∧
      ∀ ns : List Int, ns.length ≤ 63 → (∀ z ∈ ns, Builtin.Int.intBits z ≤ 1048576) → ∃ S1, Ff [.fl (ns.map .int)] [] = .ok (.bl true) S1 := by
  refine ⟨G73.cs, G73.F_law, hT, fun c hc => ?_, fun c hc => ?_, fun base KB GB TB => ?_, math⟩
  · simp only [List.mem_cons, List.not_mem_nil, or_false] at hc
    rcases hc with rfl
    · first | kernel_rfl | rfl
  · simp only [List.mem_cons, List.not_mem_nil, or_false] at hc
    rcases hc with rfl
    · exact PySem.W.codeHd_of_K KX (by first | kernel_rfl | rfl)
  · have B : Bi mg := by
      refine bi_mk KX G ?_
      first | kernel_rfl | rfl
    have ER : ErrAll (hd73.heap_39 w.params) mg G73.eA G73.isP 24 := errs_mk KX G (by first | kernel_rfl | rfl) (by decide +kernel)
    have e_RoundError : EC (hd73.heap_39 w.params) mg "RoundError" := ER.ec ("RoundError", 24) (by simp)
    have e_NoHold : EC (hd73.heap_39 w.params) mg "NoHold" := ER.ec ("NoHold", 37) (by simp)
    have e_NoPromise : EC (hd73.heap_39 w.params) mg "NoPromise" := ER.ec ("NoPromise", 49) (by simp)
    have e_Unlike : EC (hd73.heap_39 w.params) mg "Unlike" := ER.ec ("Unlike", 61) (by simp)
    have hCR : mg "RoundError" = some (.ref 24) := ER.at_.at_ ("RoundError", 24) (by simp)
    have h_FIFTY : ∃ t, mg "FIFTY" = some (.int G73.c_FIFTY t) := loose_mk XX (by simp)
    have h_MOST_TURNS : ∃ t, mg "MOST_TURNS" = some (.int G73.c_MOST_TURNS t) := by
      refine' int_mk KX G ?qq1
      (case qq1 => k_is)
    have h_MOST_NAME : ∃ t, mg "MOST_NAME" = some (.int G73.c_MOST_NAME t) := by
      refine' int_mk KX G ?qq2
      (case qq2 => k_is)
    have h_MOST_INS : ∃ t, mg "MOST_INS" = some (.int G73.c_MOST_INS t) := by
      refine' int_mk KX G ?qq3
      (case qq3 => k_is)
    have h_MOST_ROWS : ∃ t, mg "MOST_ROWS" = some (.int G73.c_MOST_ROWS t) := by
      refine' int_mk KX G ?qq4
      (case qq4 => k_is)
    have h_MOST_LENGTH : ∃ t, mg "MOST_LENGTH" = some (.int G73.c_MOST_LENGTH t) := by
      refine' int_mk KX G ?qq5
      (case qq5 => k_is)
    have D_is_integer : DefOk ⟨PySem.Challenge.rw_roundwarrant_k73_whole_backing_of_both.prog, w, (hd73.heap_39 w.params), mg, base, tabOf G73.cs⟩ "is_integer" G73.s_is_integer := by
      refine' def_mk KX G ?qq6 ?qq7 ?qq8 ?qq9
      (case qq6 => k_is)
      (case qq7 => k_is)
      (case qq8 => k_is)
      (case qq9 => k_is)
    have h_is_integer := G73.fc_is_integer (Z := ⟨PySem.Challenge.rw_roundwarrant_k73_whole_backing_of_both.prog, w, (hd73.heap_39 w.params), mg, base, tabOf G73.cs⟩) B rfl D_is_integer
    have D_is_within : DefOk ⟨PySem.Challenge.rw_roundwarrant_k73_whole_backing_of_both.prog, w, (hd73.heap_39 w.params), mg, base, tabOf G73.cs⟩ "is_within" G73.s_is_within := by
      refine' def_mk KX G ?qq10 ?qq11 ?qq12 ?qq13
      (case qq10 => k_is)
      (case qq11 => k_is)
      (case qq12 => k_is)
      (case qq13 => k_is)
    have h_is_within := G73.fc_is_within (Z := ⟨PySem.Challenge.rw_roundwarrant_k73_whole_backing_of_both.prog, w, (hd73.heap_39 w.params), mg, base, tabOf G73.cs⟩) B rfl h_is_integer D_is_within
    have D_too_great : DefOk ⟨PySem.Challenge.rw_roundwarrant_k73_whole_backing_of_both.prog, w, (hd73.heap_39 w.params), mg, base, tabOf G73.cs⟩ "too_great" G73.s_too_great := by
      refine' def_mk KX G ?qq14 ?qq15 ?qq16 ?qq17
      (case qq14 => k_is)
      (case qq15 => k_is)
      (case qq16 => k_is)
      (case qq17 => k_is)
    have h_too_great := G73.fc_too_great (Z := ⟨PySem.Challenge.rw_roundwarrant_k73_whole_backing_of_both.prog, w, (hd73.heap_39 w.params), mg, base, tabOf G73.cs⟩) B rfl h_MOST_TURNS h_FIFTY D_too_great
    have D_common_divisor : DefOk ⟨PySem.Challenge.rw_roundwarrant_k73_whole_backing_of_both.prog, w, (hd73.heap_39 w.params), mg, base, tabOf G73.cs⟩ "common_divisor" G73.s_common_divisor := by
      refine' def_mk KX G ?qq18 ?qq19 ?qq20 ?qq21
      (case qq18 => k_is)
      (case qq19 => k_is)
      (case qq20 => k_is)
      (case qq21 => k_is)
    have h_common_divisor := G73.fc_common_divisor (Z := ⟨PySem.Challenge.rw_roundwarrant_k73_whole_backing_of_both.prog, w, (hd73.heap_39 w.params), mg, base, tabOf G73.cs⟩) B rfl D_common_divisor
    have D_is_fraction : DefOk ⟨PySem.Challenge.rw_roundwarrant_k73_whole_backing_of_both.prog, w, (hd73.heap_39 w.params), mg, base, tabOf G73.cs⟩ "is_fraction" G73.s_is_fraction := by
      refine' def_mk KX G ?qq22 ?qq23 ?qq24 ?qq25
      (case qq22 => k_is)
      (case qq23 => k_is)
      (case qq24 => k_is)
      (case qq25 => k_is)
    have h_is_fraction := G73.fc_is_fraction (Z := ⟨PySem.Challenge.rw_roundwarrant_k73_whole_backing_of_both.prog, w, (hd73.heap_39 w.params), mg, base, tabOf G73.cs⟩) B rfl h_is_integer h_too_great h_common_divisor D_is_fraction
    have D_raw_at_most : DefOk ⟨PySem.Challenge.rw_roundwarrant_k73_whole_backing_of_both.prog, w, (hd73.heap_39 w.params), mg, base, tabOf G73.cs⟩ "raw_at_most" G73.s_raw_at_most := by
      refine' def_mk KX G ?qq26 ?qq27 ?qq28 ?qq29
      (case qq26 => k_is)
      (case qq27 => k_is)
      (case qq28 => k_is)
      (case qq29 => k_is)
    have h_raw_at_most := G73.fc_raw_at_most (Z := ⟨PySem.Challenge.rw_roundwarrant_k73_whole_backing_of_both.prog, w, (hd73.heap_39 w.params), mg, base, tabOf G73.cs⟩) B rfl D_raw_at_most
    have D_raw_lesser : DefOk ⟨PySem.Challenge.rw_roundwarrant_k73_whole_backing_of_both.prog, w, (hd73.heap_39 w.params), mg, base, tabOf G73.cs⟩ "raw_lesser" G73.s_raw_lesser := by
      refine' def_mk KX G ?qq30 ?qq31 ?qq32 ?qq33
      (case qq30 => k_is)
      (case qq31 => k_is)
      (case qq32 => k_is)
      (case qq33 => k_is)
    have h_raw_lesser := G73.fc_raw_lesser (Z := ⟨PySem.Challenge.rw_roundwarrant_k73_whole_backing_of_both.prog, w, (hd73.heap_39 w.params), mg, base, tabOf G73.cs⟩) B rfl h_raw_at_most D_raw_lesser
    have D_raw_greater : DefOk ⟨PySem.Challenge.rw_roundwarrant_k73_whole_backing_of_both.prog, w, (hd73.heap_39 w.params), mg, base, tabOf G73.cs⟩ "raw_greater" G73.s_raw_greater := by
      refine' def_mk KX G ?qq34 ?qq35 ?qq36 ?qq37
      (case qq34 => k_is)
      (case qq35 => k_is)
      (case qq36 => k_is)
      (case qq37 => k_is)
    have h_raw_greater := G73.fc_raw_greater (Z := ⟨PySem.Challenge.rw_roundwarrant_k73_whole_backing_of_both.prog, w, (hd73.heap_39 w.params), mg, base, tabOf G73.cs⟩) B rfl h_raw_at_most D_raw_greater
    have D_is_hold : DefOk ⟨PySem.Challenge.rw_roundwarrant_k73_whole_backing_of_both.prog, w, (hd73.heap_39 w.params), mg, base, tabOf G73.cs⟩ "is_hold" G73.s_is_hold := by
      refine' def_mk KX G ?qq38 ?qq39 ?qq40 ?qq41
      (case qq38 => k_is)
      (case qq39 => k_is)
      (case qq40 => k_is)
      (case qq41 => k_is)
    have h_is_hold := G73.fc_is_hold (Z := ⟨PySem.Challenge.rw_roundwarrant_k73_whole_backing_of_both.prog, w, (hd73.heap_39 w.params), mg, base, tabOf G73.cs⟩) B rfl h_is_fraction h_raw_at_most D_is_hold
    have D_check_hold : DefOk ⟨PySem.Challenge.rw_roundwarrant_k73_whole_backing_of_both.prog, w, (hd73.heap_39 w.params), mg, base, tabOf G73.cs⟩ "check_hold" G73.s_check_hold := by
      refine' def_mk KX G ?qq42 ?qq43 ?qq44 ?qq45
      (case qq42 => k_is)
      (case qq43 => k_is)
      (case qq44 => k_is)
      (case qq45 => k_is)
    have h_check_hold := G73.fc_check_hold (Z := ⟨PySem.Challenge.rw_roundwarrant_k73_whole_backing_of_both.prog, w, (hd73.heap_39 w.params), mg, base, tabOf G73.cs⟩) B rfl e_NoHold h_is_hold D_check_hold
    have D_raw_covers : DefOk ⟨PySem.Challenge.rw_roundwarrant_k73_whole_backing_of_both.prog, w, (hd73.heap_39 w.params), mg, base, tabOf G73.cs⟩ "raw_covers" G73.s_raw_covers := by
      refine' def_mk KX G ?qq46 ?qq47 ?qq48 ?qq49
      (case qq46 => k_is)
      (case qq47 => k_is)
      (case qq48 => k_is)
      (case qq49 => k_is)
    have h_raw_covers := G73.fc_raw_covers (Z := ⟨PySem.Challenge.rw_roundwarrant_k73_whole_backing_of_both.prog, w, (hd73.heap_39 w.params), mg, base, tabOf G73.cs⟩) B rfl h_raw_at_most D_raw_covers
    have D_raw_joined : DefOk ⟨PySem.Challenge.rw_roundwarrant_k73_whole_backing_of_both.prog, w, (hd73.heap_39 w.params), mg, base, tabOf G73.cs⟩ "raw_joined" G73.s_raw_joined := by
      refine' def_mk KX G ?qq50 ?qq51 ?qq52 ?qq53
      (case qq50 => k_is)
      (case qq51 => k_is)
      (case qq52 => k_is)
      (case qq53 => k_is)
    have h_raw_joined := G73.fc_raw_joined (Z := ⟨PySem.Challenge.rw_roundwarrant_k73_whole_backing_of_both.prog, w, (hd73.heap_39 w.params), mg, base, tabOf G73.cs⟩) B rfl h_raw_greater h_raw_lesser D_raw_joined
    have D_joined : DefOk ⟨PySem.Challenge.rw_roundwarrant_k73_whole_backing_of_both.prog, w, (hd73.heap_39 w.params), mg, base, tabOf G73.cs⟩ "joined" G73.s_joined := by
      refine' def_mk KX G ?qq54 ?qq55 ?qq56 ?qq57
      (case qq54 => k_is)
      (case qq55 => k_is)
      (case qq56 => k_is)
      (case qq57 => k_is)
    have h_joined := G73.fc_joined (Z := ⟨PySem.Challenge.rw_roundwarrant_k73_whole_backing_of_both.prog, w, (hd73.heap_39 w.params), mg, base, tabOf G73.cs⟩) B rfl h_check_hold h_raw_joined D_joined
    have D_is_name : DefOk ⟨PySem.Challenge.rw_roundwarrant_k73_whole_backing_of_both.prog, w, (hd73.heap_39 w.params), mg, base, tabOf G73.cs⟩ "is_name" G73.s_is_name := by
      refine' def_mk KX G ?qq58 ?qq59 ?qq60 ?qq61
      (case qq58 => k_is)
      (case qq59 => k_is)
      (case qq60 => k_is)
      (case qq61 => k_is)
    have h_is_name := G73.fc_is_name (Z := ⟨PySem.Challenge.rw_roundwarrant_k73_whole_backing_of_both.prog, w, (hd73.heap_39 w.params), mg, base, tabOf G73.cs⟩) B rfl h_MOST_NAME D_is_name
    have D_is_row : DefOk ⟨PySem.Challenge.rw_roundwarrant_k73_whole_backing_of_both.prog, w, (hd73.heap_39 w.params), mg, base, tabOf G73.cs⟩ "is_row" G73.s_is_row := by
      refine' def_mk KX G ?qq62 ?qq63 ?qq64 ?qq65
      (case qq62 => k_is)
      (case qq63 => k_is)
      (case qq64 => k_is)
      (case qq65 => k_is)
    have h_is_row := G73.fc_is_row (Z := ⟨PySem.Challenge.rw_roundwarrant_k73_whole_backing_of_both.prog, w, (hd73.heap_39 w.params), mg, base, tabOf G73.cs⟩) B rfl h_MOST_LENGTH h_is_within h_is_hold D_is_row
    have D_are_rows : DefOk ⟨PySem.Challenge.rw_roundwarrant_k73_whole_backing_of_both.prog, w, (hd73.heap_39 w.params), mg, base, tabOf G73.cs⟩ "are_rows" G73.s_are_rows := by
      refine' def_mk KX G ?qq66 ?qq67 ?qq68 ?qq69
      (case qq66 => k_is)
      (case qq67 => k_is)
      (case qq68 => k_is)
      (case qq69 => k_is)
    have h_are_rows := G73.fc_are_rows (Z := ⟨PySem.Challenge.rw_roundwarrant_k73_whole_backing_of_both.prog, w, (hd73.heap_39 w.params), mg, base, tabOf G73.cs⟩) B rfl h_MOST_ROWS h_is_row D_are_rows
    have D_is_promise : DefOk ⟨PySem.Challenge.rw_roundwarrant_k73_whole_backing_of_both.prog, w, (hd73.heap_39 w.params), mg, base, tabOf G73.cs⟩ "is_promise" G73.s_is_promise := by
      refine' def_mk KX G ?qq70 ?qq71 ?qq72 ?qq73
      (case qq70 => k_is)
      (case qq71 => k_is)
      (case qq72 => k_is)
      (case qq73 => k_is)
    have h_is_promise := G73.fc_is_promise (Z := ⟨PySem.Challenge.rw_roundwarrant_k73_whole_backing_of_both.prog, w, (hd73.heap_39 w.params), mg, base, tabOf G73.cs⟩) B rfl h_MOST_INS h_is_name h_is_hold h_are_rows D_is_promise
    have D_raw_backs : DefOk ⟨PySem.Challenge.rw_roundwarrant_k73_whole_backing_of_both.prog, w, (hd73.heap_39 w.params), mg, base, tabOf G73.cs⟩ "raw_backs" G73.s_raw_backs := by
      refine' def_mk KX G ?qq74 ?qq75 ?qq76 ?qq77
      (case qq74 => k_is)
      (case qq75 => k_is)
      (case qq76 => k_is)
      (case qq77 => k_is)
    have h_raw_backs := G73.fc_raw_backs (Z := ⟨PySem.Challenge.rw_roundwarrant_k73_whole_backing_of_both.prog, w, (hd73.heap_39 w.params), mg, base, tabOf G73.cs⟩) B rfl h_raw_covers D_raw_backs
    have D_check_promise : DefOk ⟨PySem.Challenge.rw_roundwarrant_k73_whole_backing_of_both.prog, w, (hd73.heap_39 w.params), mg, base, tabOf G73.cs⟩ "check_promise" G73.s_check_promise := by
      refine' def_mk KX G ?qq78 ?qq79 ?qq80 ?qq81
      (case qq78 => k_is)
      (case qq79 => k_is)
      (case qq80 => k_is)
      (case qq81 => k_is)
    have h_check_promise := G73.fc_check_promise (Z := ⟨PySem.Challenge.rw_roundwarrant_k73_whole_backing_of_both.prog, w, (hd73.heap_39 w.params), mg, base, tabOf G73.cs⟩) B rfl e_NoPromise h_is_promise D_check_promise
    have D_backs : DefOk ⟨PySem.Challenge.rw_roundwarrant_k73_whole_backing_of_both.prog, w, (hd73.heap_39 w.params), mg, base, tabOf G73.cs⟩ "backs" G73.s_backs := by
      refine' def_mk KX G ?qq82 ?qq83 ?qq84 ?qq85
      (case qq82 => k_is)
      (case qq83 => k_is)
      (case qq84 => k_is)
      (case qq85 => k_is)
    have h_backs := G73.fc_backs (Z := ⟨PySem.Challenge.rw_roundwarrant_k73_whole_backing_of_both.prog, w, (hd73.heap_39 w.params), mg, base, tabOf G73.cs⟩) B rfl h_check_promise h_raw_backs D_backs
    have D_are_alike : DefOk ⟨PySem.Challenge.rw_roundwarrant_k73_whole_backing_of_both.prog, w, (hd73.heap_39 w.params), mg, base, tabOf G73.cs⟩ "are_alike" G73.s_are_alike := by
      refine' def_mk KX G ?qq86 ?qq87 ?qq88 ?qq89
      (case qq86 => k_is)
      (case qq87 => k_is)
      (case qq88 => k_is)
      (case qq89 => k_is)
    have h_are_alike := G73.fc_are_alike (Z := ⟨PySem.Challenge.rw_roundwarrant_k73_whole_backing_of_both.prog, w, (hd73.heap_39 w.params), mg, base, tabOf G73.cs⟩) B rfl D_are_alike
    have D_check_both : DefOk ⟨PySem.Challenge.rw_roundwarrant_k73_whole_backing_of_both.prog, w, (hd73.heap_39 w.params), mg, base, tabOf G73.cs⟩ "check_both" G73.s_check_both := by
      refine' def_mk KX G ?qq90 ?qq91 ?qq92 ?qq93
      (case qq90 => k_is)
      (case qq91 => k_is)
      (case qq92 => k_is)
      (case qq93 => k_is)
    have h_check_both := G73.fc_check_both (Z := ⟨PySem.Challenge.rw_roundwarrant_k73_whole_backing_of_both.prog, w, (hd73.heap_39 w.params), mg, base, tabOf G73.cs⟩) B rfl h_check_promise D_check_both
    have D_met_holds : DefOk ⟨PySem.Challenge.rw_roundwarrant_k73_whole_backing_of_both.prog, w, (hd73.heap_39 w.params), mg, base, tabOf G73.cs⟩ "met_holds" G73.s_met_holds := by
      refine' def_mk KX G ?qq94 ?qq95 ?qq96 ?qq97
      (case qq94 => k_is)
      (case qq95 => k_is)
      (case qq96 => k_is)
      (case qq97 => k_is)
    have h_met_holds := G73.fc_met_holds (Z := ⟨PySem.Challenge.rw_roundwarrant_k73_whole_backing_of_both.prog, w, (hd73.heap_39 w.params), mg, base, tabOf G73.cs⟩) B rfl h_raw_greater h_raw_lesser h_raw_at_most D_met_holds
    have D_check_alike : DefOk ⟨PySem.Challenge.rw_roundwarrant_k73_whole_backing_of_both.prog, w, (hd73.heap_39 w.params), mg, base, tabOf G73.cs⟩ "check_alike" G73.s_check_alike := by
      refine' def_mk KX G ?qq98 ?qq99 ?qq100 ?qq101
      (case qq98 => k_is)
      (case qq99 => k_is)
      (case qq100 => k_is)
      (case qq101 => k_is)
    have h_check_alike := G73.fc_check_alike (Z := ⟨PySem.Challenge.rw_roundwarrant_k73_whole_backing_of_both.prog, w, (hd73.heap_39 w.params), mg, base, tabOf G73.cs⟩) B rfl e_Unlike h_check_both h_are_alike D_check_alike
    have D_backing_both : DefOk ⟨PySem.Challenge.rw_roundwarrant_k73_whole_backing_of_both.prog, w, (hd73.heap_39 w.params), mg, base, tabOf G73.cs⟩ "backing_both" G73.s_backing_both := by
      refine' def_mk KX G ?qq102 ?qq103 ?qq104 ?qq105
      (case qq102 => k_is)
      (case qq103 => k_is)
      (case qq104 => k_is)
      (case qq105 => k_is)
    have h_backing_both := G73.fc_backing_both (Z := ⟨PySem.Challenge.rw_roundwarrant_k73_whole_backing_of_both.prog, w, (hd73.heap_39 w.params), mg, base, tabOf G73.cs⟩) B rfl h_check_alike h_raw_joined h_met_holds D_backing_both
    have D_backed_by_both : DefOk ⟨PySem.Challenge.rw_roundwarrant_k73_whole_backing_of_both.prog, w, (hd73.heap_39 w.params), mg, base, tabOf G73.cs⟩ "backed_by_both" G73.s_backed_by_both := by
      refine' def_mk KX G ?qq106 ?qq107 ?qq108 ?qq109
      (case qq106 => k_is)
      (case qq107 => k_is)
      (case qq108 => k_is)
      (case qq109 => k_is)
    have h_backed_by_both := G73.fc_backed_by_both (Z := ⟨PySem.Challenge.rw_roundwarrant_k73_whole_backing_of_both.prog, w, (hd73.heap_39 w.params), mg, base, tabOf G73.cs⟩) B rfl h_check_alike h_met_holds h_raw_joined D_backed_by_both
    have D_law_hand_L : DefOk ⟨PySem.Challenge.rw_roundwarrant_k73_whole_backing_of_both.prog, w, (hd73.heap_39 w.params), mg, base, tabOf G73.cs⟩ "_law_hand" G73.s_law_hand_L := by
      refine' def_mk KX G ?qq110 ?qq111 ?qq112 ?qq113
      (case qq110 => k_is)
      (case qq111 => k_is)
      (case qq112 => k_is)
      (case qq113 => k_is)
    have h_law_hand_L := G73.fc_law_hand_L (Z := ⟨PySem.Challenge.rw_roundwarrant_k73_whole_backing_of_both.prog, w, (hd73.heap_39 w.params), mg, base, tabOf G73.cs⟩) B rfl D_law_hand_L
    have D_law_draw_L : DefOk ⟨PySem.Challenge.rw_roundwarrant_k73_whole_backing_of_both.prog, w, (hd73.heap_39 w.params), mg, base, tabOf G73.cs⟩ "_law_draw" G73.s_law_draw_L := by
      refine' def_mk KX G ?qq114 ?qq115 ?qq116 ?qq117
      (case qq114 => k_is)
      (case qq115 => k_is)
      (case qq116 => k_is)
      (case qq117 => k_is)
    have h_law_draw_L := G73.fc_law_draw_L (Z := ⟨PySem.Challenge.rw_roundwarrant_k73_whole_backing_of_both.prog, w, (hd73.heap_39 w.params), mg, base, tabOf G73.cs⟩) B rfl D_law_draw_L
    have D_law_any_L : DefOk ⟨PySem.Challenge.rw_roundwarrant_k73_whole_backing_of_both.prog, w, (hd73.heap_39 w.params), mg, base, tabOf G73.cs⟩ "_law_any" G73.s_law_any_L := by
      refine' def_mk KX G ?qq118 ?qq119 ?qq120 ?qq121
      (case qq118 => k_is)
      (case qq119 => k_is)
      (case qq120 => k_is)
      (case qq121 => k_is)
    have h_law_any_L := G73.fc_law_any_L (Z := ⟨PySem.Challenge.rw_roundwarrant_k73_whole_backing_of_both.prog, w, (hd73.heap_39 w.params), mg, base, tabOf G73.cs⟩) B rfl h_law_draw_L D_law_any_L
    have D_law_low_L : DefOk ⟨PySem.Challenge.rw_roundwarrant_k73_whole_backing_of_both.prog, w, (hd73.heap_39 w.params), mg, base, tabOf G73.cs⟩ "_law_low" G73.s_law_low_L := by
      refine' def_mk KX G ?qq122 ?qq123 ?qq124 ?qq125
      (case qq122 => k_is)
      (case qq123 => k_is)
      (case qq124 => k_is)
      (case qq125 => k_is)
    have h_law_low_L := G73.fc_law_low_L (Z := ⟨PySem.Challenge.rw_roundwarrant_k73_whole_backing_of_both.prog, w, (hd73.heap_39 w.params), mg, base, tabOf G73.cs⟩) B rfl D_law_low_L
    have D_law_plus_L : DefOk ⟨PySem.Challenge.rw_roundwarrant_k73_whole_backing_of_both.prog, w, (hd73.heap_39 w.params), mg, base, tabOf G73.cs⟩ "_law_plus" G73.s_law_plus_L := by
      refine' def_mk KX G ?qq126 ?qq127 ?qq128 ?qq129
      (case qq126 => k_is)
      (case qq127 => k_is)
      (case qq128 => k_is)
      (case qq129 => k_is)
    have h_law_plus_L := G73.fc_law_plus_L (Z := ⟨PySem.Challenge.rw_roundwarrant_k73_whole_backing_of_both.prog, w, (hd73.heap_39 w.params), mg, base, tabOf G73.cs⟩) B rfl h_law_low_L D_law_plus_L
    have D_law_lesser_L : DefOk ⟨PySem.Challenge.rw_roundwarrant_k73_whole_backing_of_both.prog, w, (hd73.heap_39 w.params), mg, base, tabOf G73.cs⟩ "_law_lesser" G73.s_law_lesser_L := by
      refine' def_mk KX G ?qq130 ?qq131 ?qq132 ?qq133
      (case qq130 => k_is)
      (case qq131 => k_is)
      (case qq132 => k_is)
      (case qq133 => k_is)
    have h_law_lesser_L := G73.fc_law_lesser_L (Z := ⟨PySem.Challenge.rw_roundwarrant_k73_whole_backing_of_both.prog, w, (hd73.heap_39 w.params), mg, base, tabOf G73.cs⟩) B rfl D_law_lesser_L
    have D_law_greater_L : DefOk ⟨PySem.Challenge.rw_roundwarrant_k73_whole_backing_of_both.prog, w, (hd73.heap_39 w.params), mg, base, tabOf G73.cs⟩ "_law_greater" G73.s_law_greater_L := by
      refine' def_mk KX G ?qq134 ?qq135 ?qq136 ?qq137
      (case qq134 => k_is)
      (case qq135 => k_is)
      (case qq136 => k_is)
      (case qq137 => k_is)
    have h_law_greater_L := G73.fc_law_greater_L (Z := ⟨PySem.Challenge.rw_roundwarrant_k73_whole_backing_of_both.prog, w, (hd73.heap_39 w.params), mg, base, tabOf G73.cs⟩) B rfl D_law_greater_L
    have D_law_hold_L : DefOk ⟨PySem.Challenge.rw_roundwarrant_k73_whole_backing_of_both.prog, w, (hd73.heap_39 w.params), mg, base, tabOf G73.cs⟩ "_law_hold" G73.s_law_hold_L := by
      refine' def_mk KX G ?qq138 ?qq139 ?qq140 ?qq141
      (case qq138 => k_is)
      (case qq139 => k_is)
      (case qq140 => k_is)
      (case qq141 => k_is)
    have h_law_hold_L := G73.fc_law_hold_L (Z := ⟨PySem.Challenge.rw_roundwarrant_k73_whole_backing_of_both.prog, w, (hd73.heap_39 w.params), mg, base, tabOf G73.cs⟩) B rfl h_law_low_L h_law_draw_L h_law_plus_L D_law_hold_L
    have D_law_shape_L : DefOk ⟨PySem.Challenge.rw_roundwarrant_k73_whole_backing_of_both.prog, w, (hd73.heap_39 w.params), mg, base, tabOf G73.cs⟩ "_law_shape" G73.s_law_shape_L := by
      refine' def_mk KX G ?qq142 ?qq143 ?qq144 ?qq145
      (case qq142 => k_is)
      (case qq143 => k_is)
      (case qq144 => k_is)
      (case qq145 => k_is)
    have h_law_shape_L := G73.fc_law_shape_L (Z := ⟨PySem.Challenge.rw_roundwarrant_k73_whole_backing_of_both.prog, w, (hd73.heap_39 w.params), mg, base, tabOf G73.cs⟩) B rfl h_law_draw_L D_law_shape_L
    have D_law_promise_L : DefOk ⟨PySem.Challenge.rw_roundwarrant_k73_whole_backing_of_both.prog, w, (hd73.heap_39 w.params), mg, base, tabOf G73.cs⟩ "_law_promise" G73.s_law_promise_L := by
      refine' def_mk KX G ?qq146 ?qq147 ?qq148 ?qq149
      (case qq146 => k_is)
      (case qq147 => k_is)
      (case qq148 => k_is)
      (case qq149 => k_is)
    have h_law_promise_L := G73.fc_law_promise_L (Z := ⟨PySem.Challenge.rw_roundwarrant_k73_whole_backing_of_both.prog, w, (hd73.heap_39 w.params), mg, base, tabOf G73.cs⟩) B rfl h_law_hold_L h_law_any_L D_law_promise_L
    have D_law_union_L : DefOk ⟨PySem.Challenge.rw_roundwarrant_k73_whole_backing_of_both.prog, w, (hd73.heap_39 w.params), mg, base, tabOf G73.cs⟩ "_law_union" G73.s_law_union_L := by
      refine' def_mk KX G ?qq150 ?qq151 ?qq152 ?qq153
      (case qq150 => k_is)
      (case qq151 => k_is)
      (case qq152 => k_is)
      (case qq153 => k_is)
    have h_law_union_L := G73.fc_law_union_L (Z := ⟨PySem.Challenge.rw_roundwarrant_k73_whole_backing_of_both.prog, w, (hd73.heap_39 w.params), mg, base, tabOf G73.cs⟩) B rfl h_law_greater_L h_law_lesser_L D_law_union_L
    have D_law_common_L : DefOk ⟨PySem.Challenge.rw_roundwarrant_k73_whole_backing_of_both.prog, w, (hd73.heap_39 w.params), mg, base, tabOf G73.cs⟩ "_law_common" G73.s_law_common_L := by
      refine' def_mk KX G ?qq154 ?qq155 ?qq156 ?qq157
      (case qq154 => k_is)
      (case qq155 => k_is)
      (case qq156 => k_is)
      (case qq157 => k_is)
    have h_law_common_L := G73.fc_law_common_L (Z := ⟨PySem.Challenge.rw_roundwarrant_k73_whole_backing_of_both.prog, w, (hd73.heap_39 w.params), mg, base, tabOf G73.cs⟩) B rfl h_law_greater_L h_law_lesser_L D_law_common_L
    have D_law_both_L : DefOk ⟨PySem.Challenge.rw_roundwarrant_k73_whole_backing_of_both.prog, w, (hd73.heap_39 w.params), mg, base, tabOf G73.cs⟩ "_law_both" G73.s_law_both_L := by
      refine' def_mk KX G ?qq158 ?qq159 ?qq160 ?qq161
      (case qq158 => k_is)
      (case qq159 => k_is)
      (case qq160 => k_is)
      (case qq161 => k_is)
    have h_law_both_L := G73.fc_law_both_L (Z := ⟨PySem.Challenge.rw_roundwarrant_k73_whole_backing_of_both.prog, w, (hd73.heap_39 w.params), mg, base, tabOf G73.cs⟩) B rfl h_law_union_L h_law_common_L D_law_both_L
    have D_law_pair_right_L : DefOk ⟨PySem.Challenge.rw_roundwarrant_k73_whole_backing_of_both.prog, w, (hd73.heap_39 w.params), mg, base, tabOf G73.cs⟩ "_law_pair_right" G73.s_law_pair_right_L := by
      refine' def_mk KX G ?qq162 ?qq163 ?qq164 ?qq165
      (case qq162 => k_is)
      (case qq163 => k_is)
      (case qq164 => k_is)
      (case qq165 => k_is)
    have h_law_pair_right_L := G73.fc_law_pair_right_L (Z := ⟨PySem.Challenge.rw_roundwarrant_k73_whole_backing_of_both.prog, w, (hd73.heap_39 w.params), mg, base, tabOf G73.cs⟩) B rfl h_law_both_L h_backed_by_both h_backing_both h_is_promise h_backs h_joined D_law_pair_right_L
    have D_law_others_right_L : DefOk ⟨PySem.Challenge.rw_roundwarrant_k73_whole_backing_of_both.prog, w, (hd73.heap_39 w.params), mg, base, tabOf G73.cs⟩ "_law_others_right" G73.s_law_others_right_L := by
      refine' def_mk KX G ?qq166 ?qq167 ?qq168 ?qq169
      (case qq166 => k_is)
      (case qq167 => k_is)
      (case qq168 => k_is)
      (case qq169 => k_is)
    have h_law_others_right_L := G73.fc_law_others_right_L (Z := ⟨PySem.Challenge.rw_roundwarrant_k73_whole_backing_of_both.prog, w, (hd73.heap_39 w.params), mg, base, tabOf G73.cs⟩) B rfl h_law_both_L h_law_promise_L h_law_draw_L h_backs D_law_others_right_L
    have D_law_said_L : DefOk ⟨PySem.Challenge.rw_roundwarrant_k73_whole_backing_of_both.prog, w, (hd73.heap_39 w.params), mg, base, tabOf G73.cs⟩ "_law_said" G73.s_law_said_L := by
      refine' def_mk KX G ?qq170 ?qq171 ?qq172 ?qq173
      (case qq170 => k_is)
      (case qq171 => k_is)
      (case qq172 => k_is)
      (case qq173 => k_is)
    have g_law_said_L := G73.fl_law_said_L (Z := ⟨PySem.Challenge.rw_roundwarrant_k73_whole_backing_of_both.prog, w, (hd73.heap_39 w.params), mg, base, tabOf G73.cs⟩) B rfl e_Unlike e_NoPromise hCR ER.cat ER.isE D_law_said_L
    have D_law_two_said_L : DefOkC ⟨PySem.Challenge.rw_roundwarrant_k73_whole_backing_of_both.prog, w, (hd73.heap_39 w.params), mg, base, tabOf G73.cs⟩ "_law_two_said" G73.s_law_two_said_L 337 := by
      refine' defC_mk KX G ?qq174 ?qq175 ?qq176 ?qq177
      (case qq174 => k_is)
      (case qq175 => k_is)
      (case qq176 => k_is)
      (case qq177 => k_is)
    have h_law_two_said_L := G73.fc_law_two_said_L (Z := ⟨PySem.Challenge.rw_roundwarrant_k73_whole_backing_of_both.prog, w, (hd73.heap_39 w.params), mg, base, tabOf G73.cs⟩) B rfl h_backing_both h_backed_by_both g_law_said_L (TB ⟨337, 333, "_law_two_said.<locals>.<lambda>"⟩ (by simp)) (by simp) (fun p hp he => by simp at hp; rw [hp]) D_law_two_said_L
    have D_law : DefOk ⟨PySem.Challenge.rw_roundwarrant_k73_whole_backing_of_both.prog, w, (hd73.heap_39 w.params), mg, base, tabOf G73.cs⟩ "law" G73.s_law := by
      refine' def_mk KX G ?qq178 ?qq179 ?qq180 ?qq181
      (case qq178 => k_is)
      (case qq179 => k_is)
      (case qq180 => k_is)
      (case qq181 => k_is)
    have h_law := G73.fc_law (Z := ⟨PySem.Challenge.rw_roundwarrant_k73_whole_backing_of_both.prog, w, (hd73.heap_39 w.params), mg, base, tabOf G73.cs⟩) B rfl h_law_hand_L h_backing_both h_backed_by_both h_law_shape_L h_law_promise_L h_law_pair_right_L h_law_others_right_L h_law_any_L h_law_two_said_L D_law
    obtain ⟨f1, m1, _, fa1⟩ := h_law.ex
    have ef : f1 = fa := by
      have z := m1.symm.trans hmg
      cases z
      rfl
    rw [← ef]
    exact fa1
theorem PySem.Challenge.cw_roundwarrant_k73_whole_backing_of_both_holds : PySem.Challenge.rw_roundwarrant_k73_whole_backing_of_both.Holds :=
  hd73 (by
    refine Mi.walk_end (l := PySem.Challenge.rw_roundwarrant_k73_whole_backing_of_both) (n := 63) (k := 24) rfl (by decide) rfl ⟨rfl, by decide, by decide⟩ (fun w h Y => PySem.W.km_in_of Y) ?F
    case F =>
      intro w mg fa h Y XX KX G hmg
      exact G73.top_ok KX G XX (fun c hc => PySem.W.km_tabs_of Y c.tab (by simp at hc; rcases hc with rfl <;> simp)) hmg G73.law_true)
end
