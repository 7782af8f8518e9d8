import PyProof.Rows.All
import Wide.All
import OpenK.AllK
import Wide.FinOn
import PyProof.EqAt
import PyProof.EqKinds
import PyProof.TupleCall
import HandS.ForMost
import HandS.ForExc
import HandS.Wide
import HandS.IsInst
import HandS.RevRange
import HandS.Conv
import HandS.AnyAll
import HandS.Evl
import HandS.Gcd
import HandS.Star
import HandS.More
import HandS.Zip
import HandS.Flt
import HandS.ExcInit
import HandS.ExcOwn
import HandS.ExcField
import HandS.TryOnly
import HandS.TryMany
import HandS.Nested
import HandS.FStr
import KE.KSuper
import KE.KExcSuper
import HandS.Iter
import KE.GoesEnum
import HandS.Exc
import HandS.Comp
import PyProof.GenQ
import HandS.GenList
import PyProof.ConsumeS
import PyProof.GenComp
import HandS.EndTab
import HandS.HeadWalk
import HandS.HeadHook4
import PyProof.WalkInts
import HandS.Deep
import PyProof.SumAny
import HandS.TupMul
import PyProof.FactsAll.list_4
import KE.SortData
import KE.DataMinMax
import HandS.SortKw
import PyProof.Rows.SumAny
import HandS.TupAny
import HandS.Text
import HandS.OwnEq
import HandS.NoneIn
import PyProof.NeKinds
import PySem.Challenge.RW_skyapart_k25_clashes_of_offers
set_option Elab.async false
set_option linter.all false
set_option maxRecDepth 100000
set_option maxHeartbeats 4100000
/-! Sk1: typed data over the hand layer: what a value stands for, worlds, the weakest readings. -/
namespace Sk
open PySem L2 Evl
abbrev Fg := PySem.W.Frag
theorem _root_.Evl.Ex.upd2 {H H' : Hp} {p : Addr} {o : HO} (e : Ex H H') : Ex (upd H p o) (upd H' p o) := fun a u h => by
  by_cases q : a = p
  · subst q
    rw [upd_same] at h ⊢
    exact h
  · rw [upd_ne q] at h ⊢
    exact e a u h
/-! ### what a value stands for -/
structure Rp (α : Type) where
  rep : Fg → Hp → V → α → Prop
  mono : ∀ {K : Fg} {G G' : Hp} {v : V} {x : α}, Ex G G' → rep K G v x → rep K G' v x
/-- of several values -/
structure RpF (α : Type) where
  rep : Fg → Hp → List V → α → Prop
  mono : ∀ {K : Fg} {G G' : Hp} {vs : List V} {x : α}, Ex G G' → rep K G vs x → rep K G' vs x
def rInt : Rp Int := ⟨fun _ _ v x => v = .int x, fun _ h => h⟩
def rBool : Rp Bool := ⟨fun _ _ v x => v = .bl x, fun _ h => h⟩
def rStr : Rp Str := ⟨fun _ _ v x => v = .str x, fun _ h => h⟩
def rNon : Rp Unit := ⟨fun _ _ v _ => v = .non, fun _ h => h⟩
def rAdr : Rp Addr := ⟨fun _ _ v x => v = .ref x, fun _ h => h⟩
def rAny : Rp Unit := ⟨fun _ _ _ _ => True, fun _ h => h⟩
def rTy : Rp String := ⟨fun _ _ v x => v = .ty x, fun _ h => h⟩
/-- a thing or None -/
def rOpt {α : Type} (r : Rp α) : Rp (Option α) := ⟨fun K G v x => match x with
  | none => v = .non
  | some y => v ≠ .non ∧ r.rep K G v y, fun {K G G' v x} e h => by
    cases x with
    | none => exact h
    | some y => exact ⟨h.1, r.mono e h.2⟩⟩
/-- items, one by one -/
def All2 {α : Type} (p : V → α → Prop) : List V → List α → Prop
  | [], [] => True
  | v :: vs, x :: xs => p v x ∧ All2 p vs xs
  | _, _ => False
theorem All2.mono {α : Type} {p q : V → α → Prop} (h : ∀ v x, p v x → q v x) : ∀ {vs : List V} {xs : List α}, All2 p vs xs → All2 q vs xs
  | [], [], _ => trivial
  | _ :: _, _ :: _, ⟨a, b⟩ => ⟨h _ _ a, All2.mono h b⟩
  | [], _ :: _, z => z
  | _ :: _, [], z => z
theorem All2.length {α : Type} {p : V → α → Prop} : ∀ {vs : List V} {xs : List α}, All2 p vs xs → vs.length = xs.length
  | [], [], _ => rfl
  | _ :: vs, _ :: xs, ⟨_, b⟩ => by rw [List.length_cons, List.length_cons, All2.length b]
  | [], _ :: _, z => z.elim
  | _ :: _, [], z => z.elim
theorem All2.get {α : Type} {p : V → α → Prop} : ∀ {vs : List V} {xs : List α} {i : Nat} {v : V}, All2 p vs xs → vs[i]? = some v → ∃ x, xs[i]? = some x ∧ p v x
  | [], _, _, _, _, e => by simp at e
  | _ :: _, [], _, _, z, _ => z.elim
  | w :: vs, x :: xs, 0, v, ⟨a, _⟩, e => by
    have e' : w = v := by simpa using e
    subst e'
    exact ⟨x, rfl, a⟩
  | w :: vs, x :: xs, i + 1, v, ⟨_, b⟩, e => All2.get (i := i) b (by simpa using e)
theorem All2.get' {α : Type} {p : V → α → Prop} : ∀ {vs : List V} {xs : List α} {i : Nat} {x : α}, All2 p vs xs → xs[i]? = some x → ∃ v, vs[i]? = some v ∧ p v x
  | _, [], _, _, _, e => by rw [List.getElem?_nil] at e; cases e
  | [], _ :: _, _, _, z, _ => z.elim
  | w :: vs, x :: xs, 0, y, ⟨a, _⟩, e => by
    have ey : x = y := by simpa using e
    subst ey
    exact ⟨w, rfl, a⟩
  | w :: vs, x :: xs, i + 1, y, ⟨_, b⟩, e => All2.get' (i := i) b (by simpa using e)
theorem All2.append {α : Type} {p : V → α → Prop} : ∀ {vs : List V} {xs : List α} {vs' : List V} {xs' : List α}, All2 p vs xs → All2 p vs' xs' → All2 p (vs ++ vs') (xs ++ xs')
  | [], [], _, _, _, h => h
  | _ :: _, _ :: _, _, _, ⟨a, b⟩, h => ⟨a, All2.append b h⟩
  | [], _ :: _, _, _, z, _ => z.elim
  | _ :: _, [], _, _, z, _ => z.elim
theorem All2.take {α : Type} {p : V → α → Prop} : ∀ {vs : List V} {xs : List α} (n : Nat), All2 p vs xs → All2 p (vs.take n) (xs.take n)
  | _, _, 0, _ => by simp [All2]
  | [], [], _ + 1, _ => trivial
  | _ :: _, _ :: _, n + 1, ⟨a, b⟩ => ⟨a, All2.take n b⟩
  | [], _ :: _, _ + 1, z => z.elim
  | _ :: _, [], _ + 1, z => z.elim
theorem All2.drop {α : Type} {p : V → α → Prop} : ∀ {vs : List V} {xs : List α} (n : Nat), All2 p vs xs → All2 p (vs.drop n) (xs.drop n)
  | _, _, 0, h => h
  | [], [], _ + 1, _ => trivial
  | _ :: _, _ :: _, n + 1, ⟨_, b⟩ => All2.drop n b
  | [], _ :: _, _ + 1, z => z.elim
  | _ :: _, [], _ + 1, z => z.elim
theorem All2.set {α : Type} {p : V → α → Prop} {v : V} {x : α} (hp : p v x) : ∀ {vs : List V} {xs : List α} (i : Nat), All2 p vs xs → All2 p (vs.set i v) (xs.set i x)
  | [], [], _, _ => trivial
  | _ :: _, _ :: _, 0, ⟨_, b⟩ => ⟨hp, b⟩
  | _ :: _, _ :: _, i + 1, ⟨a, b⟩ => ⟨a, All2.set hp i b⟩
  | [], _ :: _, _, z => z.elim
  | _ :: _, [], _, z => z.elim
theorem All2.map_int : ∀ {vs : List V} {xs : List Int}, All2 (fun v x => v = .int x) vs xs → vs = xs.map V.int
  | [], [], _ => rfl
  | _ :: _, _ :: _, ⟨a, b⟩ => by
    rw [a, All2.map_int b]
    rfl
  | [], _ :: _, z => z.elim
  | _ :: _, [], z => z.elim
theorem All2.of_int : ∀ (xs : List Int), All2 (fun v x => v = .int x) (xs.map V.int) xs
  | [] => trivial
  | _ :: xs => ⟨rfl, All2.of_int xs⟩
/-- a list of like things; a tuple of like things -/
def rLst {α : Type} (r : Rp α) : Rp (List α) := ⟨fun K G v xs => ∃ a vs, v = .ref a ∧ G a = some (.lst vs) ∧ All2 (r.rep K G) vs xs,
  fun e ⟨a, vs, h1, h2, h3⟩ => ⟨a, vs, h1, e _ _ h2, h3.mono fun _ _ z => r.mono e z⟩⟩
/-- a list that is read alone (the script, a module's) -/
def rSeq {α : Type} (r : Rp α) : Rp (List α) := ⟨fun K G v xs => ∃ a vs, v = .ref a ∧ SqL K G a vs ∧ All2 (r.rep K G) vs xs,
  fun e ⟨a, vs, h1, h2, h3⟩ => ⟨a, vs, h1, ex_l e h2, h3.mono fun _ _ z => r.mono e z⟩⟩
def rTpv {α : Type} (r : Rp α) : Rp (List α) := ⟨fun K G v xs => ∃ a vs, v = .ref a ∧ SqT K G a vs ∧ All2 (r.rep K G) vs xs,
  fun e ⟨a, vs, h1, h2, h3⟩ => ⟨a, vs, h1, ex_t e h2, h3.mono fun _ _ z => r.mono e z⟩⟩
def fNil : RpF Unit := ⟨fun _ _ vs _ => vs = [], fun _ h => h⟩
def fOne {α : Type} (r : Rp α) : RpF α := ⟨fun K G vs x => ∃ v, vs = [v] ∧ r.rep K G v x, fun e ⟨v, h1, h2⟩ => ⟨v, h1, r.mono e h2⟩⟩
def fCons {α β : Type} (r : Rp α) (f : RpF β) : RpF (α × β) := ⟨fun K G vs x => ∃ v ws, vs = v :: ws ∧ r.rep K G v x.1 ∧ f.rep K G ws x.2, fun e ⟨v, ws, h1, h2, h3⟩ => ⟨v, ws, h1, r.mono e h2, f.mono e h3⟩⟩
/-- a tuple of unlike things -/
def rTup {α : Type} (f : RpF α) : Rp α := ⟨fun K G v x => ∃ a vs, v = .ref a ∧ SqT K G a vs ∧ f.rep K G vs x, fun e ⟨a, vs, h1, h2, h3⟩ => ⟨a, vs, h1, ex_t e h2, f.mono e h3⟩⟩
/-! ### the frame's slots -/
structure Slot where
  {α : Type}
  r : Rp α
  x : α
abbrev Gm := List (Option Slot)
def EnvR (K : Fg) (G : Hp) : St → Gm → Prop
  | [], [] => True
  | _ :: σ, none :: Γ => EnvR K G σ Γ
  | v :: σ, some s :: Γ => (∃ u, v = some u ∧ s.r.rep K G u s.x) ∧ EnvR K G σ Γ
  | _, _ => False
theorem EnvR.mono {K : Fg} {G G' : Hp} (e : Ex G G') : ∀ {σ : St} {Γ : Gm}, EnvR K G σ Γ → EnvR K G' σ Γ
  | [], [], _ => trivial
  | _ :: σ, none :: Γ, h => EnvR.mono e (σ := σ) (Γ := Γ) h
  | _ :: _, some s :: _, ⟨⟨u, h1, h2⟩, h⟩ => ⟨⟨u, h1, s.r.mono e h2⟩, EnvR.mono e h⟩
  | [], _ :: _, h => h.elim
  | _ :: _, [], h => h.elim
theorem EnvR.get {K : Fg} {G : Hp} : ∀ {σ : St} {Γ : Gm} {i : Nat} {s : Slot}, EnvR K G σ Γ → Γ[i]? = some (some s) → ∃ u, σ[i]? = some (some u) ∧ s.r.rep K G u s.x
  | [], [], _, _, _, e => by simp at e
  | v :: σ, none :: Γ, 0, s, _, e => by simp at e
  | v :: σ, some s' :: Γ, 0, s, ⟨⟨u, h1, h2⟩, _⟩, e => by
    have e' : s' = s := by simpa using e
    subst e'
    exact ⟨u, by rw [h1]; rfl, h2⟩
  | v :: σ, none :: Γ, i + 1, s, h, e => EnvR.get (i := i) (show EnvR K G σ Γ from h) (by simpa using e)
  | v :: σ, some s' :: Γ, i + 1, s, ⟨_, h⟩, e => EnvR.get (i := i) h (by simpa using e)
  | [], _ :: _, _, _, h, _ => h.elim
  | _ :: _, [], _, _, h, _ => h.elim
theorem EnvR.set {K : Fg} {G : Hp} {s : Slot} {u : V} (hu : s.r.rep K G u s.x) : ∀ {σ : St} {Γ : Gm} (i : Nat), EnvR K G σ Γ → EnvR K G (σ.set i (some u)) (Γ.set i (some s))
  | [], [], _, _ => trivial
  | v :: σ, none :: Γ, 0, h => ⟨⟨u, rfl, hu⟩, h⟩
  | v :: σ, some s' :: Γ, 0, ⟨_, h⟩ => ⟨⟨u, rfl, hu⟩, h⟩
  | v :: σ, none :: Γ, i + 1, h => EnvR.set hu i (σ := σ) (Γ := Γ) h
  | v :: σ, some s' :: Γ, i + 1, ⟨a, h⟩ => ⟨a, EnvR.set hu i h⟩
  | [], _ :: _, _, h => h.elim
  | _ :: _, [], _, h => h.elim
/-- forgetting -/
def Wk : Gm → Gm → Prop
  | [], [] => True
  | _ :: Γ, none :: Γ' => Wk Γ Γ'
  | some s :: Γ, some s' :: Γ' => s = s' ∧ Wk Γ Γ'
  | _, _ => False
theorem Wk.env {K : Fg} {G : Hp} : ∀ {σ : St} {Γ Γ' : Gm}, Wk Γ Γ' → EnvR K G σ Γ → EnvR K G σ Γ'
  | [], [], [], _, _ => trivial
  | v :: σ, g :: Γ, none :: Γ', h, q => by
    cases g with
    | none => exact Wk.env (σ := σ) (Γ := Γ) (Γ' := Γ') h q
    | some s => exact Wk.env (σ := σ) (Γ := Γ) (Γ' := Γ') h q.2
  | v :: σ, some s :: Γ, some s' :: Γ', ⟨e, h⟩, q => by
    subst e
    exact ⟨q.1, Wk.env h q.2⟩
  | v :: σ, none :: Γ, some s' :: Γ', h, _ => h.elim
  | [], _ :: _, _, _, q => q.elim
  | _ :: _, [], _, _, q => q.elim
  | _, [], _ :: _, h, _ => h.elim
  | _, _ :: _, [], h, _ => h.elim
/-! ### objects that are one's own: they may change -/
structure Ow (α : Type) where
  rep : Fg → Hp → HO → α → Prop
  mono : ∀ {K : Fg} {G G' : Hp} {o : HO} {x : α}, Ex G G' → rep K G o x → rep K G' o x
structure Own where
  a : Addr
  {α : Type}
  r : Ow α
  x : α
def oLst {α : Type} (r : Rp α) : Ow (List α) := ⟨fun K G o xs => ∃ vs, o = .lst vs ∧ All2 (r.rep K G) vs xs, fun e ⟨vs, h1, h2⟩ => ⟨vs, h1, h2.mono fun _ _ z => r.mono e z⟩⟩
/-! ### worlds -/
def Tb (H : Hp) (P : Addr) : Prop := ∃ ps : Array Value, H P = some (.tbl ps) ∧ TriplesOk ps.toList
/-- from a world (G H) to a world (G' H'): what G tells stays, what H tells stays but for the tables T and the objects M -/
structure Stp (T M : List Addr) (G H G' H' : Hp) : Prop where
  sub : Ex G' H'
  g : Ex G G'
  h : ∀ a o, H a = some o → a ∉ T → a ∉ M → H' a = some o
  th : ∀ a, H a ≠ none → H' a ≠ none
  fr : ∀ a, G a = none → G' a ≠ none → H a = none
  tab : ∀ P ∈ T, Tb H P → Tb H' P
theorem Stp.refl {T M : List Addr} {G H : Hp} (s : Ex G H) : Stp T M G H G H :=
  ⟨s, Ex.refl _, fun _ _ h _ _ => h, fun _ h => h, fun _ h h' => (h' h).elim, fun _ _ h => h⟩
theorem Stp.trans {T M M' : List Addr} {G0 H0 G1 H1 G2 H2 : Hp} (a : Stp T M G0 H0 G1 H1) (b : Stp T M' G1 H1 G2 H2) (m : ∀ c ∈ M', c ∈ M ∨ H0 c = none) : Stp T M G0 H0 G2 H2 where
  sub := b.sub
  g := a.g.trans b.g
  h := fun c o q t n => b.h c o (a.h c o q t n) t fun z => by
    rcases m c z with y | y
    · exact n y
    · rw [y] at q
      cases q
  th := fun c q => b.th c (a.th c q)
  fr := fun c q q2 => by
    by_cases q1 : G1 c = none
    · have z := b.fr c q1 q2
      cases e : H0 c with
      | none => rfl
      | some o => exact (a.th c (by rw [e]; simp) z).elim
    · exact a.fr c q q1
  tab := fun P hP q => b.tab P hP (a.tab P hP q)
theorem Stp.weak {T M M' : List Addr} {G H G' H' : Hp} (a : Stp T M G H G' H') (m : ∀ c ∈ M, c ∈ M') : Stp T M' G H G' H' :=
  ⟨a.sub, a.g, fun c o q t n => a.h c o q t fun z => n (m c z), a.th, a.fr, a.tab⟩
/-- a new thing that will not change -/
theorem Stp.new {T M : List Addr} {G H : Hp} {p : Addr} {o : HO} (s : Ex G H) (hp : H p = none) : Stp T M G H (upd G p o) (upd H p o) where
  sub := s.upd2
  g := Ex.new (by cases e : G p with
    | none => rfl
    | some q => rw [s p q e] at hp; cases hp)
  h := fun a u e _ _ => by rw [upd_ne (ne_of_none e hp)]; exact e
  th := fun a e => by
    by_cases q : a = p
    · rw [q, upd_same]; simp
    · rw [upd_ne q]; exact e
  fr := fun a e e2 => by
    by_cases q : a = p
    · rw [q]; exact hp
    · rw [upd_ne q] at e2; exact (e2 e).elim
  tab := fun P _ ⟨ps, h1, h2⟩ => ⟨ps, by rw [upd_ne (ne_of_none h1 hp)]; exact h1, h2⟩
/-- a new object of one's own -/
theorem Stp.newOwn {T M : List Addr} {G H : Hp} {p : Addr} {o : HO} (s : Ex G H) (hp : H p = none) : Stp T M G H G (upd H p o) where
  sub := s.trans (Ex.new hp)
  g := Ex.refl _
  h := fun a u e _ _ => by rw [upd_ne (ne_of_none e hp)]; exact e
  th := fun a e => by
    by_cases q : a = p
    · rw [q, upd_same]; simp
    · rw [upd_ne q]; exact e
  fr := fun a e e2 => (e2 e).elim
  tab := fun P _ ⟨ps, h1, h2⟩ => ⟨ps, by rw [upd_ne (ne_of_none h1 hp)]; exact h1, h2⟩
/-- an own object changes -/
theorem Stp.mut {T : List Addr} {G H : Hp} {p : Addr} {o : HO} (s : Ex G H) (hp : G p = none) (ht : p ∉ T) : Stp T [p] G H G (upd H p o) where
  sub := s.mut hp
  g := Ex.refl _
  h := fun a u e _ n => by rw [upd_ne (by intro z; exact n (by simp [z]))]; exact e
  th := fun a e => by
    by_cases q : a = p
    · rw [q, upd_same]; simp
    · rw [upd_ne q]; exact e
  fr := fun a e e2 => (e2 e).elim
  tab := fun P hP ⟨ps, h1, h2⟩ => ⟨ps, by rw [upd_ne (by intro z; exact ht (z ▸ hP))]; exact h1, h2⟩
/-- where a def began: its tables, the objects it was handed to change, the world at its entry; heaps that stay told -/
structure Bs where
  T : List Addr
  M : List Addr
  G0 : Hp
  H0 : Hp
  bs : List Hp
structure OwnOk (K : Fg) (B : Bs) (G H : Hp) (w : Own) : Prop where
  ob : ∃ o, H w.a = some o ∧ w.r.rep K G o w.x
  g : G w.a = none
  t : w.a ∉ B.T
  m : B.H0 w.a = none ∨ w.a ∈ B.M
structure Ws (K : Fg) (B : Bs) (Γ : Gm) (O : List Own) (σ : St) (G H : Hp) : Prop where
  st : Stp B.T B.M B.G0 B.H0 G H
  tab : ∀ P ∈ B.T, Tb H P ∧ G P = none
  bs : ∀ g ∈ B.bs, Ex g G
  env : EnvR K G σ Γ
  own : ∀ w ∈ O, OwnOk K B G H w
  nd : (O.map (·.a)).Nodup
  mh : ∀ m ∈ B.M, B.H0 m ≠ none
section
variable {K : Fg} {B : Bs} {Γ Γ' : Gm} {O O' : List Own} {σ : St} {G H G' H' : Hp}
theorem Ws.sub (W : Ws K B Γ O σ G H) : Ex G H := W.st.sub
/-- all that changes is new -/
theorem Ws.step (W : Ws K B Γ O σ G H) (s : Stp B.T [] G H G' H') : Ws K B Γ O σ G' H' where
  st := W.st.trans s fun _ z => absurd z (by simp)
  tab := fun P hP => ⟨s.tab P hP (W.tab P hP).1, by
    cases e : G' P with
    | none => rfl
    | some o =>
      have z := s.fr P (W.tab P hP).2 (by rw [e]; simp)
      obtain ⟨⟨ps, h1, _⟩, _⟩ := W.tab P hP
      rw [h1] at z
      cases z⟩
  bs := fun g hg => (W.bs g hg).trans s.g
  env := W.env.mono s.g
  own := fun w hw => by
    obtain ⟨⟨o, h1, h2⟩, h3, h4, h5⟩ := W.own w hw
    refine ⟨⟨o, s.h _ _ h1 h4 (by simp), w.r.mono s.g h2⟩, ?_, h4, h5⟩
    cases e : G' w.a with
    | none => rfl
    | some u =>
      have z := s.fr _ h3 (by rw [e]; simp)
      rw [h1] at z
      cases z
  nd := W.nd
  mh := W.mh
theorem Ws.wk (W : Ws K B Γ O σ G H) (h : Wk Γ Γ') : Ws K B Γ' O σ G H := ⟨W.st, W.tab, W.bs, h.env W.env, W.own, W.nd, W.mh⟩
theorem Ws.set {s : Slot} {u : V} (W : Ws K B Γ O σ G H) (i : Nat) (h : s.r.rep K G u s.x) : Ws K B (Γ.set i (some s)) O (σ.set i (some u)) G H :=
  ⟨W.st, W.tab, W.bs, W.env.set h i, W.own, W.nd, W.mh⟩
/-- one more heap that stays told -/
theorem Ws.base (W : Ws K B Γ O σ G H) : Ws K { B with bs := G :: B.bs } Γ O σ G H := ⟨W.st, W.tab, fun g hg => by
  rcases List.mem_cons.mp hg with z | z
  · rw [z]; exact Ex.refl _
  · exact W.bs g z, W.env, fun w hw => let ⟨a, b, c, d⟩ := W.own w hw; ⟨a, b, c, d⟩, W.nd, W.mh⟩
theorem Ws.unbase {g : Hp} (W : Ws K { B with bs := g :: B.bs } Γ O σ G H) : Ws K B Γ O σ G H := ⟨W.st, W.tab, fun g' hg => W.bs g' (List.mem_cons_of_mem _ hg), W.env, fun w hw => let ⟨a, b, c, d⟩ := W.own w hw; ⟨a, b, c, d⟩, W.nd, W.mh⟩
theorem Ws.free (W : Ws K B Γ O σ G H) {p : Addr} (hp : H p = none) : B.H0 p = none := by
  cases e : B.H0 p with
  | none => rfl
  | some o => exact (W.st.th p (by rw [e]; simp) hp).elim
theorem Ws.notM (W : Ws K B Γ O σ G H) {p : Addr} (hp : H p = none) : p ∉ B.M := fun z => W.mh p z (W.free hp)
theorem Ws.freeG (W : Ws K B Γ O σ G H) {p : Addr} (hp : H p = none) : G p = none := by
  cases e : G p with
  | none => rfl
  | some o => rw [W.sub p o e] at hp; cases hp
theorem Ws.notT (W : Ws K B Γ O σ G H) {p : Addr} (hp : H p = none) : p ∉ B.T := fun z => by
  obtain ⟨⟨ps, h1, _⟩, _⟩ := W.tab p z
  rw [h1] at hp
  cases hp
/-- a new own object -/
theorem Ws.newOwn {α : Type} {p : Addr} {o : HO} {r : Ow α} {x : α} (W : Ws K B Γ O σ G H) (hp : H p = none) (h : r.rep K G o x) : Ws K B Γ (⟨p, r, x⟩ :: O) σ G (upd H p o) := by
  have s : Stp B.T [] G H G (upd H p o) := Stp.newOwn W.sub hp
  have W' := W.step s
  refine ⟨W'.st, W'.tab, W'.bs, W'.env, fun w hw => ?_, ?_, W.mh⟩
  · rcases List.mem_cons.mp hw with z | z
    · subst z
      exact ⟨⟨o, upd_same, h⟩, W.freeG hp, W.notT hp, .inl (W.free hp)⟩
    · exact W'.own w z
  · show (p :: O.map (·.a)).Nodup
    refine List.nodup_cons.mpr ⟨fun z => ?_, W.nd⟩
    obtain ⟨w, hw, e⟩ := List.mem_map.mp z
    obtain ⟨⟨u, h1, _⟩, _⟩ := W.own w hw
    rw [e, hp] at h1
    cases h1
/-- an own object at the head changes -/
theorem Ws.mutHd {α β : Type} {p : Addr} {o : HO} {r : Ow α} {x : α} {r' : Ow β} {x' : β} (W : Ws K B Γ (⟨p, r, x⟩ :: O) σ G H) (h : r'.rep K G o x') : Ws K B Γ (⟨p, r', x'⟩ :: O) σ G (upd H p o) := by
  obtain ⟨_, h3, h4, h5⟩ := W.own _ List.mem_cons_self
  have s : Stp B.T [p] G H G (upd H p o) := Stp.mut W.sub h3 h4
  refine ⟨W.st.trans s fun c hc => ?_, fun P hP => ⟨s.tab P hP (W.tab P hP).1, (W.tab P hP).2⟩, W.bs, W.env, fun w hw => ?_, W.nd, W.mh⟩
  · have e : c = p := by simpa using hc
    subst e
    exact h5.symm
  · have nd : p ∉ O.map (·.a) := (List.nodup_cons.mp W.nd).1
    rcases List.mem_cons.mp hw with z | z
    · subst z
      exact ⟨⟨o, upd_same, h⟩, h3, h4, h5⟩
    · obtain ⟨⟨u, g1, g2⟩, g3, g4, g5⟩ := W.own w (List.mem_cons_of_mem _ z)
      exact ⟨⟨u, by rw [upd_ne (fun e => nd (List.mem_map.mpr ⟨w, z, e⟩))]; exact g1, g2⟩, g3, g4, g5⟩
/-- the own objects in another order, some dropped -/
theorem Ws.perm (W : Ws K B Γ O σ G H) (hs : ∀ w ∈ O', w ∈ O) (hn : (O.map (·.a)).Nodup → (O'.map (·.a)).Nodup) : Ws K B Γ O' σ G H := ⟨W.st, W.tab, W.bs, W.env, fun w hw => W.own w (hs w hw), hn W.nd, W.mh⟩
end
end Sk
set_option Elab.async false
set_option linter.all false
set_option maxRecDepth 100000
set_option maxHeartbeats 4100000
/-! Sk2: the weakest readings of the hand layer's judgements, and rules over typed data. -/
namespace Sk
open PySem L2 Evl
/-! ### the weakest readings -/
section
variable {ι : Type} (F : ι → Cx)
def WE (e : Expr) : TE := fun σ H Q => ∃ t, (∀ i, PE (F i) e t) ∧ t σ H Q
def WT (e : Expr) : TT := fun σ H Q => ∃ t, (∀ i, PT (F i) e t) ∧ t σ H Q
def WP (e : Expr) : TT := fun σ H Q => ∃ t, (∀ i, PW (F i) e t) ∧ t σ H Q
def WTs (es : List Expr) : TT := fun σ H Q => ∃ t, (∀ i, PTs (F i) es t) ∧ t σ H Q
def WA (es : List Expr) : TA := fun σ H Q => ∃ t, (∀ i, PA (F i) es t) ∧ t σ H Q
def WG (e : Expr) : TG := fun v σ H Q => ∃ t, (∀ i, PG (F i) e t) ∧ t v σ H Q
def WGs (es : List Expr) : TGs := fun vs σ H Q => ∃ t, (∀ i, PGs (F i) es t) ∧ t vs σ H Q
def WI (tg e : Expr) : TI := fun σ H R => ∃ t, (∀ i, PI (F i) tg e t) ∧ t σ H R
def wOp (f : Value → Value → Sem Value) : R2 := fun x y H Q => ∃ r, (∀ i, OpR (F i) f r) ∧ r x y H Q
def wUn (f : Value → Sem Value) : V → Hp → VK → Prop := fun x H Q => ∃ r, (∀ i, UnR (F i) f r) ∧ r x H Q
def wIx : R2 := fun x y H Q => ∃ r, (∀ i, IxR (F i) r) ∧ r x y H Q
def wCl (f : Value) : List V → Hp → VK → Prop := fun vs H Q => ∃ r, (∀ i, CallR (F i) f r) ∧ r vs H Q
variable {F}
theorem WE.pe {e : Expr} (i : ι) : PE (F i) e (WE F e) := ⟨fun pins s σ H Q I ⟨_, p, q⟩ => (p i).run pins s σ H Q I q⟩
theorem WT.pt {e : Expr} (i : ι) : PT (F i) e (WT F e) := ⟨fun pins s σ H Q I ⟨_, p, q⟩ => (p i).run pins s σ H Q I q⟩
theorem WP.pw {e : Expr} (i : ι) : PW (F i) e (WP F e) := ⟨fun wh pins s σ H Q I ⟨_, p, q⟩ => (p i).run wh pins s σ H Q I q⟩
theorem WTs.pts {e : List Expr} (i : ι) : PTs (F i) e (WTs F e) := ⟨fun pins s σ H Q I ⟨_, p, q⟩ => (p i).run pins s σ H Q I q⟩
theorem WA.pa {es : List Expr} (i : ι) : PA (F i) es (WA F es) := ⟨fun pos pins s σ H Q I ⟨_, p, q⟩ => (p i).run pos pins s σ H Q I q⟩
theorem WG.pg {e : Expr} (i : ι) : PG (F i) e (WG F e) := ⟨fun pins s σ H v u Q I r ⟨_, p, q⟩ => (p i).run pins s σ H v u Q I r q⟩
theorem WGs.pgs {es : List Expr} (i : ι) : PGs (F i) es (WGs F es) := ⟨fun pins s σ H v u Q I r ⟨_, p, q⟩ => (p i).run pins s σ H v u Q I r q⟩
theorem WI.pi {tg e : Expr} (i : ι) : PI (F i) tg e (WI F tg e) := ⟨fun pins s σ H R I ⟨_, p, q⟩ => (p i).run pins s σ H R I q⟩
theorem wOp.op {f : Value → Value → Sem Value} (i : ι) : OpR (F i) f (wOp F f) := fun pins s σ H x y v u Q I rx ry ⟨_, p, q⟩ => p i pins s σ H x y v u Q I rx ry q
theorem wUn.un {f : Value → Sem Value} (i : ι) : UnR (F i) f (wUn F f) := fun pins s σ H x v Q I rx ⟨_, p, q⟩ => p i pins s σ H x v Q I rx q
theorem wIx.ix (i : ι) : IxR (F i) (wIx F) := fun val sl pins s σ H x y v u Q I rx ry ⟨_, p, q⟩ hs => p i val sl pins s σ H x y v u Q I rx ry q hs
theorem wCl.cl {f : Value} (i : ι) : CallR (F i) f (wCl F f) := fun pins s σ H xs us Q I r ⟨_, p, q⟩ => p i pins s σ H xs us Q I r q
end
section
variable (X : Cx)
def WSs (st : List Stmt) : TS := fun D σ H => ∃ t, PSs X st t ∧ t D σ H
variable {X}
theorem WSs.pss {st : List Stmt} : PSs X st (WSs X st) := ⟨fun pins s σ H D I ⟨_, p, q⟩ => p.run pins s σ H D I q⟩
theorem WSs.cons {st : Stmt} {rest : List Stmt} {D : Ends} {σ : St} {H : Hp} {t : TS} (p : PS X st t) (h : t { D with nx := WSs X rest D } σ H) : WSs X (st :: rest) D σ H := ⟨_, pss_cons p WSs.pss, h⟩
theorem WSs.nil {D : Ends} {σ : St} {H : Hp} (h : D.nx σ H) : WSs X [] D σ H := ⟨_, pss_nil, h⟩
end
/-! ### rules over typed data -/
section
variable {ι : Type} (F : ι → Cx) (K : Fg) (B : Bs) (Γ : Gm) (O : List Own)
/-- an expression gives x, as r says; behind it the own objects are O' -/
def DW (e : Expr) {α : Type} (r : Rp α) (Φ : α → List Own → Prop) : Prop :=
  ∀ σ G H, Ws K B Γ O σ G H → ∀ Q : VK, (∀ x O' v G' H', Φ x O' → Ws K B Γ O' σ G' H' → Ex G G' → r.rep K G' v x → Q v H') → WE F e σ H Q
def DT (e : Expr) (Φ : Bool → List Own → Prop) : Prop :=
  ∀ σ G H, Ws K B Γ O σ G H → ∀ Q : Bool → Hp → Prop, (∀ b O' G' H', Φ b O' → Ws K B Γ O' σ G' H' → Ex G G' → Q b H') → WT F e σ H Q
def DP (e : Expr) (Φ : Bool → List Own → Prop) : Prop :=
  ∀ σ G H, Ws K B Γ O σ G H → ∀ Q : Bool → Hp → Prop, (∀ b O' G' H', Φ b O' → Ws K B Γ O' σ G' H' → Ex G G' → Q b H') → WP F e σ H Q
def DTs (es : List Expr) (Φ : Bool → List Own → Prop) : Prop :=
  ∀ σ G H, Ws K B Γ O σ G H → ∀ Q : Bool → Hp → Prop, (∀ b O' G' H', Φ b O' → Ws K B Γ O' σ G' H' → Ex G G' → Q b H') → WTs F es σ H Q
def DA (es : List Expr) {α : Type} (r : RpF α) (Φ : α → List Own → Prop) : Prop :=
  ∀ σ G H, Ws K B Γ O σ G H → ∀ Q : List V → Hp → Prop, (∀ x O' v G' H', Φ x O' → Ws K B Γ O' σ G' H' → Ex G G' → r.rep K G' v x → Q v H') → WA F es σ H Q
/-- a two-place operation; a one-place one; a call of a built-in -/
def OW (f : Value → Value → Sem Value) {α β γ : Type} (ra : Rp α) (rb : Rp β) (x : α) (y : β) (rc : Rp γ) (Φ : γ → List Own → Prop) : Prop :=
  ∀ σ G H v w, Ws K B Γ O σ G H → ra.rep K G v x → rb.rep K G w y → ∀ Q : VK, (∀ z O' u G' H', Φ z O' → Ws K B Γ O' σ G' H' → Ex G G' → rc.rep K G' u z → Q u H') → wOp F f v w H Q
def UW (f : Value → Sem Value) {α γ : Type} (ra : Rp α) (x : α) (rc : Rp γ) (Φ : γ → List Own → Prop) : Prop :=
  ∀ σ G H v, Ws K B Γ O σ G H → ra.rep K G v x → ∀ Q : VK, (∀ z O' u G' H', Φ z O' → Ws K B Γ O' σ G' H' → Ex G G' → rc.rep K G' u z → Q u H') → wUn F f v H Q
def IW {α β γ : Type} (ra : Rp α) (rb : Rp β) (x : α) (y : β) (rc : Rp γ) (Φ : γ → List Own → Prop) : Prop :=
  ∀ σ G H v w, Ws K B Γ O σ G H → ra.rep K G v x → rb.rep K G w y → ∀ Q : VK, (∀ z O' u G' H', Φ z O' → Ws K B Γ O' σ G' H' → Ex G G' → rc.rep K G' u z → Q u H') → wIx F v w H Q
def CW (f : Value) {α γ : Type} (ra : RpF α) (x : α) (rc : Rp γ) (Φ : γ → List Own → Prop) : Prop :=
  ∀ σ G H vs, Ws K B Γ O σ G H → ra.rep K G vs x → ∀ Q : VK, (∀ z O' u G' H', Φ z O' → Ws K B Γ O' σ G' H' → Ex G G' → rc.rep K G' u z → Q u H') → wCl F f vs H Q
/-- a promise is asked -/
def SW (sp : Sp) (dvs : List V) {α γ : Type} (ra : RpF α) (x : α) (rc : Rp γ) (Φ : γ → List Own → Prop) : Prop :=
  ∀ σ G H vs, Ws K B Γ O σ G H → ra.rep K G vs x → ∀ Q : VK, (∀ z O' u G' H', Φ z O' → Ws K B Γ O' σ G' H' → Ex G G' → rc.rep K G' u z → Q u H') → sp (vs ++ dvs) H Q E0
end
section
variable {ι : Type} {F : ι → Cx} {K : Fg} {B : Bs} {Γ : Gm} {O : List Own} {α β γ : Type} {ra : Rp α} {rb : Rp β} {rc : Rp γ} {a b c e : Expr} {es : List Expr} {pos p : Pos} {n : Str}
/-! names, constants -/
class At (Γ : Gm) (i : Nat) {α : outParam Type} (r : outParam (Rp α)) (x : outParam α) : Prop where
  get : Γ[i]? = some (some ⟨r, x⟩)
instance at0 {Γ : Gm} {α : Type} {r : Rp α} {x : α} : At (some ⟨r, x⟩ :: Γ) 0 r x := ⟨rfl⟩
instance atS {Γ : Gm} {g : Option Slot} {i : Nat} {α : Type} {r : Rp α} {x : α} [h : At Γ i r x] : At (g :: Γ) (i + 1) r x := ⟨h.get⟩
theorem d_var (i : Nat) {x : α} {Φ : α → List Own → Prop} [hA : At Γ i ra x] (k : Φ x O) (hN : ∀ j, (F j).N[i]? = some n := by intro _; rfl)
    (hv : ∀ j, Vis (F j).env.scope n := by intro _; first | exact Or.inl rfl | exact Or.inr (Or.inl rfl) | exact Or.inr (Or.inr rfl)) (hd : (n == ("__debug__" : Str)) = false := by decide)
    (hcd : (n == ("__classdict__" : Str)) = false := by decide) : DW F K B Γ O (.Name n pos) ra Φ := by
  intro σ G H W Q q
  obtain ⟨u, h1, h2⟩ := W.env.get hA.get
  exact ⟨_, fun j => pe_var (hN j) (hv j) hd hcd, u, h1, q x O u G H k W (Ex.refl _) h2⟩
theorem d_int {j : Int} {i : Nat} {Φ : Int → List Own → Prop} (k : Φ j O) : DW F K B Γ O (.Constant (.int j) i pos) rInt Φ :=
  fun σ G H W Q q => ⟨_, fun _ => pe_int, q j O _ G H k W (Ex.refl _) rfl⟩
theorem d_bl {j : Bool} {i : Nat} {Φ : Bool → List Own → Prop} (k : Φ j O) : DW F K B Γ O (.Constant (.bool j) i pos) rBool Φ :=
  fun σ G H W Q q => ⟨_, fun _ => pe_bl, q j O _ G H k W (Ex.refl _) rfl⟩
theorem d_str {j : Str} {i : Nat} {Φ : Str → List Own → Prop} (k : Φ j O) : DW F K B Γ O (.Constant (.str j) i pos) rStr Φ :=
  fun σ G H W Q q => ⟨_, fun _ => pe_str, q j O _ G H k W (Ex.refl _) rfl⟩
theorem d_non {i : Nat} {Φ : Unit → List Own → Prop} (k : Φ () O) : DW F K B Γ O (.Constant .none i pos) rNon Φ :=
  fun σ G H W Q q => ⟨_, fun _ => pe_non, q () O _ G H k W (Ex.refl _) rfl⟩
/-- None where a thing or None is wanted -/
theorem d_none {i : Nat} {Φ : Option α → List Own → Prop} (k : Φ none O) : DW F K B Γ O (.Constant .none i pos) (rOpt ra) Φ :=
  fun σ G H W Q q => ⟨_, fun _ => pe_non, q none O _ G H k W (Ex.refl _) rfl⟩
theorem d_bltnF {v : V} {u : Value} {x : α} {Φ : α → List Own → Prop} (hm : ∀ j, (F j).mg n = none) (hv : bootBuiltins n = some u) (r : RelV v u) (hx : ∀ G, ra.rep K G v x) (k : Φ x O) (hg : ∀ j, Gl (F j) n := by intro _; rfl)
    (hn : n ≠ "__name__" := by decide) (hd : (n == ("__debug__" : Str)) = false := by decide) : DW F K B Γ O (.Name n pos) ra Φ :=
  fun σ G H W Q q => ⟨_, fun j => pe_bltn (hg j) (hm j) hv r hn hd, q x O _ G H k W (Ex.refl _) (hx G)⟩
theorem d_mono {Φ Ψ : α → List Own → Prop} (h : DW F K B Γ O e ra Φ) (k : ∀ x O', Φ x O' → Ψ x O') : DW F K B Γ O e ra Ψ := fun σ G H W Q q => h σ G H W Q fun x O' v G' H' p => q x O' v G' H' (k x O' p)
theorem dt_mono {Φ Ψ : Bool → List Own → Prop} (h : DT F K B Γ O e Φ) (k : ∀ x O', Φ x O' → Ψ x O') : DT F K B Γ O e Ψ := fun σ G H W Q q => h σ G H W Q fun x O' G' H' p => q x O' G' H' (k x O' p)
/-! operators -/
theorem d_bin {op : Operator} {Φ : γ → List Own → Prop} (h : DW F K B Γ O a ra fun x O1 => DW F K B Γ O1 b rb fun y O2 => OW F K B Γ O2 (binaryOp op) ra rb x y rc Φ) : DW F K B Γ O (.BinOp a op b pos) rc Φ := by
  intro σ G H W Q q
  refine ⟨_, fun i => pe_op (wOp.op i) (WE.pe i) (WE.pe i), ?_⟩
  refine h σ G H W _ fun x O1 v G1 H1 h1 W1 e1 r1 => ?_
  refine h1 σ G1 H1 W1 _ fun y O2 w G2 H2 h2 W2 e2 r2 => ?_
  exact h2 σ G2 H2 v w W2 (ra.mono e2 r1) r2 Q fun z O' u G' H' k W' e' r' => q z O' u G' H' k W' ((e1.trans e2).trans e') r'
theorem d_un {op : UnaryOp} {Φ : γ → List Own → Prop} (h : DW F K B Γ O a ra fun x O1 => UW F K B Γ O1 (unaryOp op) ra x rc Φ) : DW F K B Γ O (.UnaryOp op a pos) rc Φ := by
  intro σ G H W Q q
  refine ⟨_, fun i => pe_un (wUn.un i) (WE.pe i), ?_⟩
  refine h σ G H W _ fun x O1 v G1 H1 h1 W1 e1 r1 => ?_
  exact h1 σ G1 H1 v W1 r1 Q fun z O' u G' H' k W' e' r' => q z O' u G' H' k W' (e1.trans e') r'
theorem d_cmp {op : CmpOp} {Φ : γ → List Own → Prop} (h : DW F K B Γ O a ra fun x O1 => DW F K B Γ O1 b rb fun y O2 => OW F K B Γ O2 (compareOp op) ra rb x y rc Φ)
    (hm : behindInMarks op b = false := by first | exact nomark _ | rfl) : DW F K B Γ O (.Compare a [op] [b] pos) rc Φ := by
  intro σ G H W Q q
  refine ⟨_, fun i => pe_cmpR (wOp.op i) (WE.pe i) (WE.pe i) hm, ?_⟩
  refine h σ G H W _ fun x O1 v G1 H1 h1 W1 e1 r1 => ?_
  refine h1 σ G1 H1 W1 _ fun y O2 w G2 H2 h2 W2 e2 r2 => ?_
  exact h2 σ G2 H2 v w W2 (ra.mono e2 r1) r2 Q fun z O' u G' H' k W' e' r' => q z O' u G' H' k W' ((e1.trans e2).trans e') r'
theorem dt_cmp {op : CmpOp} {Φ : Bool → List Own → Prop} (h : DW F K B Γ O a ra fun x O1 => DW F K B Γ O1 b rb fun y O2 => OW F K B Γ O2 (compareOp op) ra rb x y rBool Φ)
    (hm : behindInMarks op b = false := by first | exact nomark _ | rfl) : DT F K B Γ O (.Compare a [op] [b] pos) Φ := by
  intro σ G H W Q q
  refine ⟨_, fun i => pt_cmpR (wOp.op i) (WE.pe i) (WE.pe i) hm, ?_⟩
  refine h σ G H W _ fun x O1 v G1 H1 h1 W1 e1 r1 => ?_
  refine h1 σ G1 H1 W1 _ fun y O2 w G2 H2 h2 W2 e2 r2 => ?_
  exact h2 σ G2 H2 v w W2 (ra.mono e2 r1) r2 _ fun z O' u G' H' k W' e' r' => ⟨z, r', q z O' G' H' k W' ((e1.trans e2).trans e')⟩
theorem dt_chain {op op' : CmpOp} {Φ : Bool → List Own → Prop} (h : DW F K B Γ O a ra fun x O1 => DW F K B Γ O1 b rb fun y O2 => OW F K B Γ O2 (compareOp op) ra rb x y rBool fun z O3 =>
      (z = true → DW F K B Γ O3 c rc fun w O4 => OW F K B Γ O4 (compareOp op') rb rc y w rBool Φ) ∧ (z = false → Φ false O3))
    (hm : lastMarks [op, op'] [b, c] = false := by with_unfolding_all rfl) : DT F K B Γ O (.Compare a [op, op'] [b, c] pos) Φ := by
  intro σ G H W Q q
  refine ⟨_, fun i => pt_chain (wOp.op i) (wOp.op i) (WE.pe i) (WE.pe i) (WE.pe i) hm, ?_⟩
  refine h σ G H W _ fun x O1 v G1 H1 h1 W1 e1 r1 => ?_
  refine h1 σ G1 H1 W1 _ fun y O2 w G2 H2 h2 W2 e2 r2 => ?_
  refine h2 σ G2 H2 v w W2 (ra.mono e2 r1) r2 _ fun z O3 u G3 H3 k W3 e3 r3 => ⟨z, r3, ?_⟩
  have e13 := (e1.trans e2).trans e3
  cases z with
  | false => exact ⟨false, rfl, q false O3 G3 H3 (k.2 rfl) W3 e13⟩
  | true =>
    refine k.1 rfl σ G3 H3 W3 _ fun w' O4 v4 G4 H4 h4 W4 e4 r4 => ?_
    exact h4 σ G4 H4 w v4 W4 (rb.mono (e3.trans e4) r2) r4 _ fun z O' u G' H' k W' e' r' => ⟨z, r', q z O' G' H' k W' ((e13.trans e4).trans e')⟩
/-! tests -/
theorem dt_val {Φ : Bool → List Own → Prop} (h : DW F K B Γ O e rBool Φ) (he : ∀ i whole, isTrue e (F i).env whole = (do let v ← whole; standAt e.pos; holding [v] (truthy v)) := by intro _ _; rfl) : DT F K B Γ O e Φ := by
  intro σ G H W Q q
  refine ⟨_, fun i => pt_val (WE.pe i) (he i), ?_⟩
  exact h σ G H W _ fun x O1 v G1 H1 k W1 e1 r1 => ⟨x, r1, q x O1 G1 H1 k W1 e1⟩
theorem dt_not {Φ : Bool → List Own → Prop} (h : DT F K B Γ O a fun x O1 => Φ (!x) O1) : DT F K B Γ O (.UnaryOp .Not a pos) Φ := by
  intro σ G H W Q q
  refine ⟨_, fun i => pt_not (WT.pt i), ?_⟩
  exact h σ G H W _ fun x O1 G1 H1 k W1 e1 => q _ O1 G1 H1 k W1 e1
theorem dt_bool {op : BoolOp} {Φ : Bool → List Own → Prop} (h : DP F K B Γ O (.BoolOp op es pos) Φ) : DT F K B Γ O (.BoolOp op es pos) Φ := by
  intro σ G H W Q q
  exact ⟨_, fun i => (WP.pw i).pt, h σ G H W Q q⟩
theorem dp_and {Φ : Bool → List Own → Prop} (h : DT F K B Γ O a fun x O1 => (x = true → DP F K B Γ O1 (.BoolOp .And (b :: es) pos) Φ) ∧ (x = false → Φ false O1)) : DP F K B Γ O (.BoolOp .And (a :: b :: es) pos) Φ := by
  intro σ G H W Q q
  refine ⟨_, fun i => pw_and (WT.pt i) (WP.pw i), ?_⟩
  refine h σ G H W _ fun x O1 G1 H1 k W1 e1 => ?_
  cases x with
  | true => exact k.1 rfl σ G1 H1 W1 Q fun x O2 G2 H2 k W2 e2 => q x O2 G2 H2 k W2 (e1.trans e2)
  | false => exact q false O1 G1 H1 (k.2 rfl) W1 e1
theorem dp_or {Φ : Bool → List Own → Prop} (h : DT F K B Γ O a fun x O1 => (x = false → DP F K B Γ O1 (.BoolOp .Or (b :: es) pos) Φ) ∧ (x = true → Φ true O1)) : DP F K B Γ O (.BoolOp .Or (a :: b :: es) pos) Φ := by
  intro σ G H W Q q
  refine ⟨_, fun i => pw_or (WT.pt i) (WP.pw i), ?_⟩
  refine h σ G H W _ fun x O1 G1 H1 k W1 e1 => ?_
  cases x with
  | false => exact k.1 rfl σ G1 H1 W1 Q fun x O2 G2 H2 k W2 e2 => q x O2 G2 H2 k W2 (e1.trans e2)
  | true => exact q true O1 G1 H1 (k.2 rfl) W1 e1
theorem dp_and1 {Φ : Bool → List Own → Prop} (h : DT F K B Γ O a Φ) : DP F K B Γ O (.BoolOp .And [a] pos) Φ := fun σ G H W Q q => ⟨_, fun i => pw_and1 (WT.pt i), h σ G H W Q q⟩
theorem dp_or1 {Φ : Bool → List Own → Prop} (h : DT F K B Γ O a Φ) : DP F K B Γ O (.BoolOp .Or [a] pos) Φ := fun σ G H W Q q => ⟨_, fun i => pw_or1 (WT.pt i), h σ G H W Q q⟩
/-- as values, all True or False -/
theorem d_and {Φ : Bool → List Own → Prop} (h : DW F K B Γ O a rBool fun x O1 => (x = true → DW F K B Γ O1 (.BoolOp .And (b :: es) pos) rBool Φ) ∧ (x = false → Φ false O1)) : DW F K B Γ O (.BoolOp .And (a :: b :: es) pos) rBool Φ := by
  intro σ G H W Q q
  refine ⟨_, fun i => pe_and (WE.pe i) (WE.pe i), ?_⟩
  refine h σ G H W _ fun x O1 v G1 H1 k W1 e1 r1 => ⟨x, r1, ?_⟩
  cases x with
  | true => exact k.1 rfl σ G1 H1 W1 Q fun x O2 v G2 H2 k W2 e2 r2 => q x O2 v G2 H2 k W2 (e1.trans e2) r2
  | false => exact q false O1 _ G1 H1 (k.2 rfl) W1 e1 rfl
theorem d_or {Φ : Bool → List Own → Prop} (h : DW F K B Γ O a rBool fun x O1 => (x = false → DW F K B Γ O1 (.BoolOp .Or (b :: es) pos) rBool Φ) ∧ (x = true → Φ true O1)) : DW F K B Γ O (.BoolOp .Or (a :: b :: es) pos) rBool Φ := by
  intro σ G H W Q q
  refine ⟨_, fun i => pe_or (WE.pe i) (WE.pe i), ?_⟩
  refine h σ G H W _ fun x O1 v G1 H1 k W1 e1 r1 => ⟨x, r1, ?_⟩
  cases x with
  | false => exact k.1 rfl σ G1 H1 W1 Q fun x O2 v G2 H2 k W2 e2 r2 => q x O2 v G2 H2 k W2 (e1.trans e2) r2
  | true => exact q true O1 _ G1 H1 (k.2 rfl) W1 e1 rfl
theorem d_one {op : BoolOp} {Φ : α → List Own → Prop} (h : DW F K B Γ O a ra Φ) : DW F K B Γ O (.BoolOp op [a] pos) ra Φ := fun σ G H W Q q => ⟨_, fun i => pe_one (WE.pe i), h σ G H W Q q⟩
theorem d_not {Φ : Bool → List Own → Prop} (h : DW F K B Γ O a rBool fun x O1 => Φ (!x) O1) : DW F K B Γ O (.UnaryOp .Not a pos) rBool Φ := by
  intro σ G H W Q q
  refine ⟨_, fun i => pe_not (WE.pe i), ?_⟩
  exact h σ G H W _ fun x O1 v G1 H1 k W1 e1 r1 => ⟨x, r1, q _ O1 _ G1 H1 k W1 e1 rfl⟩
theorem d_ite {Φ : α → List Own → Prop} (h : DT F K B Γ O c fun x O1 => (x = true → DW F K B Γ O1 a ra Φ) ∧ (x = false → DW F K B Γ O1 b ra Φ)) : DW F K B Γ O (.IfExp c a b pos) ra Φ := by
  intro σ G H W Q q
  refine ⟨_, fun i => pe_ifExp (WT.pt i) (WE.pe i) (WE.pe i), ?_⟩
  refine h σ G H W _ fun x O1 G1 H1 k W1 e1 => ?_
  cases x with
  | true => exact k.1 rfl σ G1 H1 W1 Q fun x O2 v G2 H2 k W2 e2 r2 => q x O2 v G2 H2 k W2 (e1.trans e2) r2
  | false => exact k.2 rfl σ G1 H1 W1 Q fun x O2 v G2 H2 k W2 e2 r2 => q x O2 v G2 H2 k W2 (e1.trans e2) r2
/-! argument lists, displays -/
theorem da_one {Φ : α → List Own → Prop} (h : DW F K B Γ O a ra Φ) (hs : ∀ i, starEach [a] (F i).env = (false, eval a (F i).env) :: starEach [] (F i).env := by intro _; rfl) : DA F K B Γ O [a] (fOne ra) Φ := by
  intro σ G H W Q q
  refine ⟨_, fun i => pa_cons (WE.pe i) pa_nil (hs i), ?_⟩
  exact h σ G H W _ fun x O1 v G1 H1 k W1 e1 r1 => q x O1 [v] G1 H1 k W1 e1 ⟨v, rfl, r1⟩
theorem da_cons {f : RpF β} {Φ : α × β → List Own → Prop} (h : DW F K B Γ O a ra fun x O1 => DA F K B Γ O1 es f fun y O2 => Φ (x, y) O2)
    (hs : ∀ i, starEach (a :: es) (F i).env = (false, eval a (F i).env) :: starEach es (F i).env := by intro _; rfl) : DA F K B Γ O (a :: es) (fCons ra f) Φ := by
  intro σ G H W Q q
  refine ⟨_, fun i => pa_cons (WE.pe i) (WA.pa i) (hs i), ?_⟩
  refine h σ G H W _ fun x O1 v G1 H1 k W1 e1 r1 => ?_
  exact k σ G1 H1 W1 _ fun y O2 vs G2 H2 k2 W2 e2 r2 => q (x, y) O2 (v :: vs) G2 H2 k2 W2 (e1.trans e2) ⟨v, vs, rfl, ra.mono e2 r1, r2⟩
/-- items that are alike -/
def fAll (r : Rp α) : RpF (List α) := ⟨fun K G vs xs => All2 (r.rep K G) vs xs, fun e h => h.mono fun _ _ z => r.mono e z⟩
theorem da_all {Φ : List α → List Own → Prop} (h : DW F K B Γ O a ra fun x O1 => DA F K B Γ O1 es (fAll ra) fun y O2 => Φ (x :: y) O2)
    (hs : ∀ i, starEach (a :: es) (F i).env = (false, eval a (F i).env) :: starEach es (F i).env := by intro _; rfl) : DA F K B Γ O (a :: es) (fAll ra) Φ := by
  intro σ G H W Q q
  refine ⟨_, fun i => pa_cons (WE.pe i) (WA.pa i) (hs i), ?_⟩
  refine h σ G H W _ fun x O1 v G1 H1 k W1 e1 r1 => ?_
  exact k σ G1 H1 W1 _ fun y O2 vs G2 H2 k2 W2 e2 r2 => q (x :: y) O2 (v :: vs) G2 H2 k2 W2 (e1.trans e2) ⟨ra.mono e2 r1, r2⟩
theorem da_all0 {Φ : List α → List Own → Prop} (k : Φ [] O) : DA F K B Γ O [] (fAll ra) Φ := fun σ G H W Q q => ⟨_, fun i => pa_nil, q [] O [] G H k W (Ex.refl _) trivial⟩
/-- its number of values is known -/
class Len {α : Type} (f : RpF α) (n : outParam Nat) : Prop where
  len : ∀ {K : Fg} {G : Hp} {vs : List V} {x : α}, f.rep K G vs x → vs.length = n
instance lenNil : Len fNil 0 := ⟨fun h => by rw [show _ = ([] : List V) from h]; rfl⟩
instance lenOne {r : Rp α} : Len (fOne r) 1 := ⟨fun ⟨v, h, _⟩ => by rw [h]; rfl⟩
instance lenCons {r : Rp α} {f : RpF β} {n : Nat} [h : Len f n] : Len (fCons r f) (n + 1) := ⟨fun ⟨v, ws, h1, _, h3⟩ => by rw [h1, List.length_cons, h.len h3]⟩
theorem d_tup {f : RpF α} {k : Nat} {m : Nat} [hl : Len f m] {Φ : α → List Own → Prop} (h : DA F K B Γ O es f Φ) (hm : m ≤ sizeLine := by decide) : DW F K B Γ O (.Tuple es k pos) (rTup f) Φ := by
  intro σ G H W Q q
  refine ⟨_, fun i => pe_tup (WA.pa i), ?_⟩
  refine h σ G H W _ fun x O1 vs G1 H1 k W1 e1 r1 => ⟨by rw [hl.len r1]; exact hm, fun p hp => ?_⟩
  have s : Stp B.T [] G1 H1 (upd G1 p (.tup vs)) (upd H1 p (.tup vs)) := Stp.new W1.sub hp
  exact q x O1 _ _ _ k (W1.step s) (e1.trans s.g) ⟨p, vs, rfl, SqT.of upd_same, f.mono s.g r1⟩
/-- a tuple whose items are alike -/
theorem d_tpv {k : Nat} {Φ : List α → List Own → Prop} (h : DA F K B Γ O es (fAll ra) fun x O1 => x.length ≤ sizeLine ∧ Φ x O1) : DW F K B Γ O (.Tuple es k pos) (rTpv ra) Φ := by
  intro σ G H W Q q
  refine ⟨_, fun i => pe_tup (WA.pa i), ?_⟩
  refine h σ G H W _ fun x O1 vs G1 H1 k W1 e1 r1 => ⟨by rw [All2.length r1]; exact k.1, fun p hp => ?_⟩
  have s : Stp B.T [] G1 H1 (upd G1 p (.tup vs)) (upd H1 p (.tup vs)) := Stp.new W1.sub hp
  exact q x O1 _ _ _ k.2 (W1.step s) (e1.trans s.g) ⟨p, vs, rfl, SqT.of upd_same, (fAll ra).mono s.g r1⟩
theorem d_lst {Φ : List α → List Own → Prop} (h : DA F K B Γ O es (fAll ra) fun x O1 => x.length ≤ sizeLine ∧ Φ x O1) : DW F K B Γ O (.List es pos) (rLst ra) Φ := by
  intro σ G H W Q q
  refine ⟨_, fun i => pe_lst (WA.pa i), ?_⟩
  refine h σ G H W _ fun x O1 vs G1 H1 k W1 e1 r1 => ⟨by rw [All2.length r1]; exact k.1, fun p hp => ?_⟩
  have s : Stp B.T [] G1 H1 (upd G1 p (.lst vs)) (upd H1 p (.lst vs)) := Stp.new W1.sub hp
  exact q x O1 _ _ _ k.2 (W1.step s) (e1.trans s.g) ⟨p, vs, rfl, upd_same, (fAll ra).mono s.g r1⟩
/-- a list of one's own -/
theorem d_lstO {Φ : Addr → List Own → Prop} (h : DA F K B Γ O es (fAll ra) fun x O1 => x.length ≤ sizeLine ∧ ∀ p, p ∉ B.M → Φ p (⟨p, oLst ra, x⟩ :: O1)) : DW F K B Γ O (.List es pos) rAdr Φ := by
  intro σ G H W Q q
  refine ⟨_, fun i => pe_lst (WA.pa i), ?_⟩
  refine h σ G H W _ fun x O1 vs G1 H1 k W1 e1 r1 => ⟨by rw [All2.length r1]; exact k.1, fun p hp => ?_⟩
  exact q p _ _ G1 _ (k.2 p (W1.notM hp)) (W1.newOwn hp (r := oLst ra) (x := x) ⟨vs, rfl, r1⟩) e1 rfl
/-! calls -/
/-- what a family of contexts shares -/
class Fam (F : ι → Cx) (P : outParam Program) (w : outParam World) (K : outParam Fg) (mg : outParam (Str → Option Value)) (base : outParam Heap) (k : outParam Nat) : Prop where
  pr : ∀ i, (F i).prog = P
  wd : ∀ i, (F i).w = w
  ka : ∀ i, (F i).K = K
  mg : ∀ i, (F i).mg = mg
  bs : ∀ i, (F i).base = base
  rm : ∀ i, Room k (F i).A
  cm : ∀ i, (F i).calm = true
  nd : ∀ i, (F i).N.Nodup
variable {P : Program} {w : World} {mg : Str → Option Value} {base : Heap} {k : Nat}
/-- a def of the module -/
structure Df (K : Fg) (mg : Str → Option Value) (n : Str) (st : Stmt) (ps : List Str) where
  f : Addr
  fd : FuncData
  F : Fun K n n st f fd
  m : mg n = some (.ref f)
  b : Binds K fd ps []
/-- a call of a def -/
theorem d_call [fam : Fam F P w K mg base k] {j : Nat} {st : Stmt} {ps : List Str} {sp : Sp} (D : Df K mg n st ps) (G : FnOk P w K mg base CX0 j D.f D.fd ps sp) {g : RpF α} {Φ : γ → List Own → Prop}
    (h : DA F K B Γ O (e :: es) g fun x O1 => SW K B Γ O1 sp [] g x rc Φ) (hj : j ≤ k := by decide) (hdb : (n == ("__debug__" : Str)) = false := by decide) (hg : ∀ i, Gl (F i) n := by intro _; rfl)
    (he : ∀ i, starEach (e :: es) (F i).env = (false, eval e (F i).env) :: starEach es (F i).env := by intro _; rfl) (hpl : ∀ i, (backTo pos (starEach es (F i).env)).any (·.1) = false := by intro _; rfl) :
    DW F K B Γ O (.Call (.Name n p) (e :: es) [] pos) rc Φ := by
  intro σ G' H W Q q
  refine ⟨tCall sp [] E0 (WA F (e :: es)), fun i => ?_, h σ G' H W _ fun x O1 vs G1 H1 k W1 e1 r1 => k σ G1 H1 vs W1 r1 Q fun z O' u G2 H2 k2 W2 e2 r2 => q z O' u G2 H2 k2 W2 (e1.trans e2) r2⟩
  have h1 := fam.pr i
  have h2 := fam.wd i
  have h3 := fam.ka i
  have h4 := fam.mg i
  have h5 := fam.bs i
  have G2 : FnOk (F i).prog (F i).w (F i).K (F i).mg (F i).base CX0 j D.f D.fd ps sp := by rw [h1, h2, h3, h4, h5]; exact G
  have m2 : (F i).mg n = some (.ref D.f) := by rw [h4]; exact D.m
  have k2 : PySem.W.keepIn (F i).K (.ref D.f) = true := by rw [h3]; exact D.F.kp
  have b2 : Binds (F i).K D.fd ps [] := by rw [h3]; exact D.b
  exact pe_call G2 ((fam.rm i).mono hj) (hg i) m2 k2 b2 .nil pass0 (WA.pa i) (hdb := hdb) (he := he i) (hpl := hpl i)
/-- a call of a built-in function, of a built-in type -/
theorem d_callB [fam : Fam F P w K mg base k] {id : String} {g : RpF α} {Φ : γ → List Own → Prop} (hm : mg n = none) (hv : bootBuiltins n = some (.builtin id)) (h : DA F K B Γ O (e :: es) g fun x O1 => CW F K B Γ O1 (.builtin id) g x rc Φ)
    (hg : ∀ i, Gl (F i) n := by intro _; rfl) (hn : n ≠ "__name__" := by decide) (hdb : (n == ("__debug__" : Str)) = false := by decide)
    (he : ∀ i, starEach (e :: es) (F i).env = (false, eval e (F i).env) :: starEach es (F i).env := by intro _; rfl) (hpl : ∀ i, (backTo pos (starEach es (F i).env)).any (·.1) = false := by intro _; rfl) :
    DW F K B Γ O (.Call (.Name n p) (e :: es) [] pos) rc Φ := by
  intro σ G H W Q q
  refine ⟨_, fun i => pe_callB (wCl.cl i) (hg i) (by rw [fam.mg i]; exact hm) hv (WA.pa i) hn hdb (he i) (hpl i), ?_⟩
  refine h σ G H W _ fun x O1 vs G1 H1 k W1 e1 r1 => ?_
  exact k σ G1 H1 vs W1 r1 Q fun z O' u G2 H2 k2 W2 e2 r2 => q z O' u G2 H2 k2 W2 (e1.trans e2) r2
theorem d_callT [fam : Fam F P w K mg base k] {T : String} {g : RpF α} {Φ : γ → List Own → Prop} (hm : mg n = none) (hv : bootBuiltins n = some (.type T)) (h : DA F K B Γ O (e :: es) g fun x O1 => CW F K B Γ O1 (.type T) g x rc Φ)
    (hg : ∀ i, Gl (F i) n := by intro _; rfl) (hn : n ≠ "__name__" := by decide) (hdb : (n == ("__debug__" : Str)) = false := by decide)
    (he : ∀ i, starEach (e :: es) (F i).env = (false, eval e (F i).env) :: starEach es (F i).env := by intro _; rfl) (hpl : ∀ i, (backTo pos (starEach es (F i).env)).any (·.1) = false := by intro _; rfl) :
    DW F K B Γ O (.Call (.Name n p) (e :: es) [] pos) rc Φ := by
  intro σ G H W Q q
  refine ⟨_, fun i => pe_callTy (wCl.cl i) (hg i) (by rw [fam.mg i]; exact hm) hv (WA.pa i) hn hdb (he i) (hpl i), ?_⟩
  refine h σ G H W _ fun x O1 vs G1 H1 k W1 e1 r1 => ?_
  exact k σ G1 H1 vs W1 r1 Q fun z O' u G2 H2 k2 W2 e2 r2 => q z O' u G2 H2 k2 W2 (e1.trans e2) r2
theorem d_cls [fam : Fam F P w K mg base k] {T : String} {Φ : String → List Own → Prop} (hm : mg n = none) (hv : bootBuiltins n = some (.type T)) (k : Φ T O) (hg : ∀ j, Gl (F j) n := by intro _; rfl)
    (hn : n ≠ "__name__" := by decide) (hd : (n == ("__debug__" : Str)) = false := by decide) : DW F K B Γ O (.Name n pos) rTy Φ := d_bltnF (v := .ty T) (fun j => by rw [fam.mg j]; exact hm) hv rfl (fun _ => rfl) k hg hn hd
/-- a[b] -/
theorem d_ix {Φ : γ → List Own → Prop} (h : DW F K B Γ O a ra fun x O1 => DW F K B Γ O1 b rb fun y O2 => IW F K B Γ O2 ra rb x y rc Φ) (hs : PlainIx b := by intro _ _; rfl) : DW F K B Γ O (.Subscript a b pos) rc Φ := by
  intro σ G H W Q q
  refine ⟨_, fun i => pe_ix (wIx.ix i) (WE.pe i) (WE.pe i) hs, ?_⟩
  refine h σ G H W _ fun x O1 v G1 H1 h1 W1 e1 r1 => ?_
  refine h1 σ G1 H1 W1 _ fun y O2 w G2 H2 h2 W2 e2 r2 => ?_
  exact h2 σ G2 H2 v w W2 (ra.mono e2 r1) r2 Q fun z O' u G' H' k W' e' r' => q z O' u G' H' k W' ((e1.trans e2).trans e') r'
end
end Sk
set_option Elab.async false
set_option linter.all false
set_option maxRecDepth 100000
set_option maxHeartbeats 4100000
/-! Sk3: operators on typed data, statements, loops, comprehensions, promises of defs. -/
namespace Sk
open PySem L2 Evl
/-! ### bounds of rgI, by their bits -/
class Bd (k : outParam Nat) (x : Int) : Prop where
  lt : x.natAbs < 2 ^ k
theorem two_le {a b : Nat} (h : a ≤ b) : 2 ^ a ≤ 2 ^ b := Nat.pow_le_pow_right (by decide) h
theorem bdAdd {a b : Nat} {x y : Int} (h1 : Bd a x) (h2 : Bd b y) : Bd (max a b + 1) (x + y) := ⟨by
  have p := two_le (Nat.le_max_left a b)
  have q := two_le (Nat.le_max_right a b)
  have r1 := h1.lt
  have r2 := h2.lt
  rw [Nat.pow_succ]
  omega⟩
theorem bdSub {a b : Nat} {x y : Int} (h1 : Bd a x) (h2 : Bd b y) : Bd (max a b + 1) (x - y) := ⟨by
  have p := two_le (Nat.le_max_left a b)
  have q := two_le (Nat.le_max_right a b)
  have r1 := h1.lt
  have r2 := h2.lt
  rw [Nat.pow_succ]
  omega⟩
instance (priority := low) {a b : Nat} {x y : Int} [h1 : Bd a x] [h2 : Bd b y] : Bd (max a b + 1) (x + y) := bdAdd h1 h2
instance (priority := low) {a b : Nat} {x y : Int} [h1 : Bd a x] [h2 : Bd b y] : Bd (max a b + 1) (x - y) := bdSub h1 h2
instance (priority := low) {a : Nat} {x : Int} [h1 : Bd a x] : Bd a (-x) := ⟨by rw [Int.natAbs_neg]; exact h1.lt⟩
instance (priority := low) {a b : Nat} {x y : Int} [h1 : Bd a x] [h2 : Bd b y] : Bd (a + b) (x * y) := ⟨wide_lt h1.lt h2.lt⟩
instance (priority := low) {a b : Nat} {x y : Int} {c : Prop} [Decidable c] [h1 : Bd a x] [h2 : Bd b y] : Bd (max a b) (if c then x else y) := ⟨by
  split
  · exact Nat.lt_of_lt_of_le h1.lt (two_le (Nat.le_max_left a b))
  · exact Nat.lt_of_lt_of_le h2.lt (two_le (Nat.le_max_right a b))⟩
instance (priority := low) {n : Nat} : Bd (Nat.log2 n + 1) (no_index (OfNat.ofNat n) : Int) := ⟨by
  have h : ((OfNat.ofNat n : Int)).natAbs = n := by rfl
  rw [h]
  exact Nat.lt_log2_self⟩
theorem Bd.of {k : Nat} {x : Int} (h1 : -(2 ^ k) < x) (h2 : x < 2 ^ k) : Bd k x := ⟨by
  have e : ((2 ^ k : Nat) : Int) = (2 : Int) ^ k := by simp
  have h3 : -((2 ^ k : Nat) : Int) < x := by rw [e]; exact h1
  have h4 : x < ((2 ^ k : Nat) : Int) := by rw [e]; exact h2
  omega⟩
theorem Bd.mono {j k : Nat} {x : Int} (h : Bd j x) (hk : j ≤ k) : Bd k x := ⟨Nat.lt_of_lt_of_le h.lt (two_le hk)⟩
theorem log2_le {k : Nat} {x : Int} (h : Bd k x) : x.natAbs.log2 ≤ k := by
  by_cases h0 : k = 0
  · subst h0
    have := h.lt
    have e : x.natAbs = 0 := by omega
    rw [e]
    decide
  · exact Nat.le_of_lt (PySem.Flt.log2_lt_of (by omega) h.lt)
theorem mulOk {a b : Nat} {x y : Int} [h1 : Bd a x] [h2 : Bd b y] (h : a + b ≤ 900000 := by decide) : CMulW x y := by
  have p := log2_le h1
  have q := log2_le h2
  unfold CMulW
  omega
theorem divOk {b : Nat} {x y : Int} [h2 : Bd b y] (hy : 0 < y) (h : b ≤ 8999 := by decide) : CDivW x y := ⟨hy, by
  have q := log2_le h2
  omega⟩
/-! ### operators -/
section
variable {ι : Type} {F : ι → Cx} {K : Fg} {B : Bs} {Γ : Gm} {O : List Own} {α β γ : Type} {ra : Rp α} {rb : Rp β} {rc : Rp γ}
section
variable {x y : Int} {Φ : Int → List Own → Prop} {Ψ : Bool → List Own → Prop}
theorem o_add (k : Φ (x + y) O) : OW F K B Γ O (binaryOp .Add) rInt rInt x y rInt Φ := fun σ G H v w W rv rw Q q => ⟨_, fun _ => op_add, x, y, rv, rw, q _ O _ G H k W (Ex.refl _) rfl⟩
theorem o_sub (k : Φ (x - y) O) : OW F K B Γ O (binaryOp .Sub) rInt rInt x y rInt Φ := fun σ G H v w W rv rw Q q => ⟨_, fun _ => op_sub, x, y, rv, rw, q _ O _ G H k W (Ex.refl _) rfl⟩
theorem o_mul (h : CMulW x y) (k : Φ (x * y) O) : OW F K B Γ O (binaryOp .Mult) rInt rInt x y rInt Φ := fun σ G H v w W rv rw Q q => ⟨_, fun _ => op_mulW, x, y, rv, rw, h, q _ O _ G H k W (Ex.refl _) rfl⟩
theorem o_div (h : CDivW x y) (k : Φ (x / y) O) : OW F K B Γ O (binaryOp .FloorDiv) rInt rInt x y rInt Φ := fun σ G H v w W rv rw Q q => ⟨_, fun _ => op_fdivW, x, y, rv, rw, h, q _ O _ G H k W (Ex.refl _) rfl⟩
theorem o_mod (h : 0 < y) (k : Φ (x % y) O) : OW F K B Γ O (binaryOp .Mod) rInt rInt x y rInt Φ := fun σ G H v w W rv rw Q q => ⟨_, fun _ => op_mod, x, y, rv, rw, h, q _ O _ G H k W (Ex.refl _) rfl⟩
theorem o_pow (h : 0 ≤ y ∧ y ≤ 1000000 ∧ x.natAbs < 2 ^ 64) (k : Φ (x ^ y.toNat) O) : OW F K B Γ O (binaryOp .Pow) rInt rInt x y rInt Φ := fun σ G H v w W rv rw Q q => ⟨_, fun _ => op_pow, x, y, rv, rw, h, q _ O _ G H k W (Ex.refl _) rfl⟩
theorem o_lt (k : Ψ (decide (x < y)) O) : OW F K B Γ O (compareOp .Lt) rInt rInt x y rBool Ψ := fun σ G H v w W rv rw Q q => ⟨_, fun _ => op_lt, x, y, rv, rw, q _ O _ G H k W (Ex.refl _) rfl⟩
theorem o_le (k : Ψ (decide (x ≤ y)) O) : OW F K B Γ O (compareOp .LtE) rInt rInt x y rBool Ψ := fun σ G H v w W rv rw Q q => ⟨_, fun _ => op_le, x, y, rv, rw, q _ O _ G H k W (Ex.refl _) rfl⟩
theorem o_gt (k : Ψ (decide (y < x)) O) : OW F K B Γ O (compareOp .Gt) rInt rInt x y rBool Ψ := fun σ G H v w W rv rw Q q => ⟨_, fun _ => op_gt, x, y, rv, rw, q _ O _ G H k W (Ex.refl _) rfl⟩
theorem o_ge (k : Ψ (decide (y ≤ x)) O) : OW F K B Γ O (compareOp .GtE) rInt rInt x y rBool Ψ := fun σ G H v w W rv rw Q q => ⟨_, fun _ => op_ge, x, y, rv, rw, q _ O _ G H k W (Ex.refl _) rfl⟩
theorem o_eqI (k : Ψ (decide (x = y)) O) : OW F K B Γ O (compareOp .Eq) rInt rInt x y rBool Ψ := fun σ G H v w W rv rw Q q => ⟨_, fun _ => op_eq, by
  rw [show v = V.int x from rv, show w = V.int y from rw]
  refine ⟨rfl, q _ O _ G H k W (Ex.refl _) ?_⟩
  show V.bl (decide (V.int x = V.int y)) = V.bl (decide (x = y))
  simp⟩
theorem u_neg (k : Φ (-x) O) : UW F K B Γ O (unaryOp .USub) rInt x rInt Φ := fun σ G H v W rv Q q => ⟨_, fun _ => un_neg, x, rv, q _ O _ G H k W (Ex.refl _) rfl⟩
end
theorem o_eqB {x y : Bool} {Ψ : Bool → List Own → Prop} (k : Ψ (decide (x = y)) O) : OW F K B Γ O (compareOp .Eq) rBool rBool x y rBool Ψ := fun σ G H v w W rv rw Q q => ⟨_, fun _ => op_eq, by
  rw [show v = V.bl x from rv, show w = V.bl y from rw]
  refine ⟨rfl, q _ O _ G H k W (Ex.refl _) ?_⟩
  show V.bl (decide (V.bl x = V.bl y)) = V.bl (decide (x = y))
  simp⟩
theorem o_eqS {x y : Str} {Ψ : Bool → List Own → Prop} (k : Ψ (decide (x = y)) O) : OW F K B Γ O (compareOp .Eq) rStr rStr x y rBool Ψ := fun σ G H v w W rv rw Q q => ⟨_, fun _ => op_eq, by
  rw [show v = V.str x from rv, show w = V.str y from rw]
  refine ⟨rfl, q _ O _ G H k W (Ex.refl _) ?_⟩
  show V.bl (decide (V.str x = V.str y)) = V.bl (decide (x = y))
  simp⟩
theorem o_neS {x y : Str} {Ψ : Bool → List Own → Prop} (k : Ψ (!decide (x = y)) O) : OW F K B Γ O (compareOp .NotEq) rStr rStr x y rBool Ψ := fun σ G H v w W rv rw Q q => ⟨_, fun _ => op_ne, by
  rw [show v = V.str x from rv, show w = V.str y from rw]
  refine ⟨rfl, q _ O _ G H k W (Ex.refl _) ?_⟩
  show V.bl (!decide (V.str x = V.str y)) = V.bl (!decide (x = y))
  simp⟩
theorem dec_none {α : Type} {r : Rp α} {K : Fg} {G : Hp} {v : V} {x : Option α} (h : (rOpt r).rep K G v x) : decide (v = V.non) = x.isNone := by
  cases x with
  | none =>
    rw [show v = V.non from h]
    rfl
  | some y =>
    rw [decide_eq_false h.1]
    rfl
theorem o_isN {x : Option α} {u : Unit} {Ψ : Bool → List Own → Prop} (k : Ψ x.isNone O) : OW F K B Γ O (compareOp .Is) (rOpt ra) rNon x u rBool Ψ := fun σ G H v w W rv rw Q q => ⟨_, fun _ => op_isN, rw, q _ O _ G H k W (Ex.refl _) (by
  show V.bl (decide (v = V.non)) = V.bl x.isNone
  rw [dec_none rv])⟩
theorem o_notN {x : Option α} {u : Unit} {Ψ : Bool → List Own → Prop} (k : Ψ (!x.isNone) O) : OW F K B Γ O (compareOp .IsNot) (rOpt ra) rNon x u rBool Ψ := fun σ G H v w W rv rw Q q => ⟨_, fun _ => op_notN, rw, q _ O _ G H k W (Ex.refl _) (by
  show V.bl (!decide (v = V.non)) = V.bl (!x.isNone)
  rw [dec_none rv])⟩
/-! ### items -/
theorem atI_ok {n : Nat} {i : Int} (h0 : 0 ≤ i) (h1 : i < n) : ixN n i = some i.toNat := by
  unfold ixN
  rw [if_pos h0, if_pos h1]
theorem i_lst {xs : List α} {i : Int} {x : α} {Φ : α → List Own → Prop} (h : atI xs i = some x) (k : Φ x O) (hK : ∀ j, (F j).K = K := by intro _; rfl) : IW F K B Γ O (rLst ra) rInt xs i ra Φ := by
  intro σ G H v w W rv rw Q q
  obtain ⟨a, vs, h1, h2, h3⟩ := rv
  unfold atI at h
  obtain ⟨j, h4, h5⟩ := Option.bind_eq_some_iff.mp h
  obtain ⟨u, h6, h7⟩ := h3.get' h5
  refine ⟨rIxL K, fun j => by rw [← hK j]; exact ix_list, a, vs, i, u, h1, rw, SqL.of (W.sub _ _ h2), ?_, q x O u G H k W (Ex.refl _) h7⟩
  unfold atI
  rw [h3.length, h4]
  exact h6
theorem i_tpv {xs : List α} {i : Int} {x : α} {Φ : α → List Own → Prop} (h : atI xs i = some x) (k : Φ x O) (hK : ∀ j, (F j).K = K := by intro _; rfl) : IW F K B Γ O (rTpv ra) rInt xs i ra Φ := by
  intro σ G H v w W rv rw Q q
  obtain ⟨a, vs, h1, h2, h3⟩ := rv
  unfold atI at h
  obtain ⟨j, h4, h5⟩ := Option.bind_eq_some_iff.mp h
  obtain ⟨u, h6, h7⟩ := h3.get' h5
  refine ⟨rIxT K, fun j => by rw [← hK j]; exact ix_tup, a, vs, i, u, h1, rw, ex_t W.sub h2, ?_, q x O u G H k W (Ex.refl _) h7⟩
  unfold atI
  rw [h3.length, h4]
  exact h6
/-- the i-th of unlike things -/
class FAt {α : Type} (f : RpF α) (i : Nat) {β : outParam Type} (r : outParam (Rp β)) (g : outParam (α → β)) : Prop where
  get : ∀ {K : Fg} {G : Hp} {vs : List V} {x : α}, f.rep K G vs x → ∃ v, vs[i]? = some v ∧ r.rep K G v (g x)
instance fat1 {r : Rp α} : FAt (fOne r) 0 r (fun x => x) := ⟨fun ⟨v, h, k⟩ => ⟨v, by rw [h]; rfl, k⟩⟩
instance fat0 {r : Rp α} {f : RpF β} : FAt (fCons r f) 0 r (fun x => x.1) := ⟨fun ⟨v, ws, h, k, _⟩ => ⟨v, by rw [h]; rfl, k⟩⟩
instance fatS {r : Rp α} {f : RpF β} {i : Nat} {r' : Rp γ} {g : β → γ} [h : FAt f i r' g] : FAt (fCons r f) (i + 1) r' (fun x => g x.2) := ⟨fun ⟨v, ws, e, _, k⟩ => let ⟨u, h1, h2⟩ := h.get k; ⟨u, by rw [e]; simpa using h1, h2⟩⟩
theorem i_tup {f : RpF α} {x : α} (i : Nat) {r : Rp β} {g : α → β} [hf : FAt f i r g] {Φ : β → List Own → Prop} (k : Φ (g x) O) (hK : ∀ j, (F j).K = K := by intro _; rfl) : IW F K B Γ O (rTup f) rInt x ((OfNat.ofNat i : Nat) : Int) r Φ := by
  intro σ G H v w W rv rw Q q
  obtain ⟨a, vs, h1, h2, h3⟩ := rv
  obtain ⟨u, h4, h5⟩ := hf.get h3
  exact ⟨rIxT K, fun j => by rw [← hK j]; exact ix_tup, a, vs, (i : Int), u, h1, rw, ex_t W.sub h2, atI_nat h4, q _ O u G H k W (Ex.refl _) h5⟩
/-! ### built-in functions -/
theorem c_abs {x : Int} {Φ : Int → List Own → Prop} (k : Φ (if x < 0 then -x else x) O) : CW F K B Γ O (.builtin "abs") (fOne rInt) x rInt Φ := fun σ G H vs W ⟨v, e, rv⟩ Q q => ⟨_, fun _ => call_abs, x, by rw [e, show v = V.int x from rv], q _ O _ G H k W (Ex.refl _) rfl⟩
theorem c_int {x : Int} {Φ : Int → List Own → Prop} (k : Φ x O) : CW F K B Γ O (.type "int") (fOne rInt) x rInt Φ := fun σ G H vs W ⟨v, e, rv⟩ Q q => ⟨_, fun _ => call_int1, .inl ⟨x, by rw [e, show v = V.int x from rv], q _ O _ G H k W (Ex.refl _) rfl⟩⟩
theorem c_intB {x : Bool} {Φ : Int → List Own → Prop} (k : Φ (if x then 1 else 0) O) : CW F K B Γ O (.type "int") (fOne rBool) x rInt Φ := fun σ G H vs W ⟨v, e, rv⟩ Q q => ⟨_, fun _ => call_int1, .inr ⟨x, by rw [e, show v = V.bl x from rv], q _ O _ G H k W (Ex.refl _) rfl⟩⟩
theorem c_max2 {x : Int × Int} {Φ : Int → List Own → Prop} (k : Φ (if x.2 > x.1 then x.2 else x.1) O) (hc : ∀ j, (F j).calm = true := by intro _; rfl) : CW F K B Γ O (.builtin "max") (fCons rInt (fOne rInt)) x rInt Φ :=
  fun σ G H vs W ⟨v, ws, e, rv, u, e2, ru⟩ Q q => ⟨_, fun j => call_max2 (hc j), x.1, x.2, by rw [e, e2, show v = V.int x.1 from rv, show u = V.int x.2 from ru], q _ O _ G H k W (Ex.refl _) rfl⟩
theorem c_min2 {x : Int × Int} {Φ : Int → List Own → Prop} (k : Φ (if x.2 < x.1 then x.2 else x.1) O) (hc : ∀ j, (F j).calm = true := by intro _; rfl) : CW F K B Γ O (.builtin "min") (fCons rInt (fOne rInt)) x rInt Φ :=
  fun σ G H vs W ⟨v, ws, e, rv, u, e2, ru⟩ Q q => ⟨_, fun j => call_min2 (hc j), x.1, x.2, by rw [e, e2, show v = V.int x.1 from rv, show u = V.int x.2 from ru], q _ O _ G H k W (Ex.refl _) rfl⟩
theorem c_lenL {xs : List α} {Φ : Int → List Own → Prop} (k : Φ (xs.length : Int) O) (hK : ∀ j, (F j).K = K := by intro _; rfl) : CW F K B Γ O (.builtin "len") (fOne (rLst ra)) xs rInt Φ :=
  fun σ G H vs W ⟨v, e, a, ws, h1, h2, h3⟩ Q q => ⟨fun xs H Q => ∃ p ys, xs = [.ref p] ∧ (SqL K H p ys ∨ SqT K H p ys) ∧ Q (.int ys.length) H, fun j => by rw [← hK j]; exact call_len_seq, a, ws, by rw [e, h1], .inl (SqL.of (W.sub _ _ h2)), q _ O _ G H k W (Ex.refl _) (by rw [h3.length]; rfl)⟩
theorem c_lenS {xs : List α} {Φ : Int → List Own → Prop} (k : Φ (xs.length : Int) O) (hK : ∀ j, (F j).K = K := by intro _; rfl) : CW F K B Γ O (.builtin "len") (fOne (rSeq ra)) xs rInt Φ :=
  fun σ G H vs W ⟨v, e, a, ws, h1, h2, h3⟩ Q q => ⟨fun xs H Q => ∃ p ys, xs = [.ref p] ∧ (SqL K H p ys ∨ SqT K H p ys) ∧ Q (.int ys.length) H, fun j => by rw [← hK j]; exact call_len_seq, a, ws, by rw [e, h1], .inl (ex_l W.sub h2), q _ O _ G H k W (Ex.refl _) (by rw [h3.length]; rfl)⟩
theorem c_lenT {xs : List α} {Φ : Int → List Own → Prop} (k : Φ (xs.length : Int) O) (hK : ∀ j, (F j).K = K := by intro _; rfl) : CW F K B Γ O (.builtin "len") (fOne (rTpv ra)) xs rInt Φ :=
  fun σ G H vs W ⟨v, e, a, ws, h1, h2, h3⟩ Q q => ⟨fun xs H Q => ∃ p ys, xs = [.ref p] ∧ (SqL K H p ys ∨ SqT K H p ys) ∧ Q (.int ys.length) H, fun j => by rw [← hK j]; exact call_len_seq, a, ws, by rw [e, h1], .inr (ex_t W.sub h2), q _ O _ G H k W (Ex.refl _) (by rw [h3.length]; rfl)⟩
/-- what isinstance asks of a thing: its built-in type -/
class Kind (r : Rp α) (t : outParam String) : Prop where
  ty : ∀ {K : Fg} {G H : Hp} {v : V} {x : α}, Ex G H → r.rep K G v x → TyX K H v (.type t)
instance : Kind rInt "int" := ⟨fun _ h => by rw [show _ = V.int _ from h]; exact .base (.int _)⟩
instance : Kind rBool "bool" := ⟨fun _ h => by rw [show _ = V.bl _ from h]; exact .base (.bl _)⟩
instance : Kind rStr "str" := ⟨fun _ h => by rw [show _ = V.str _ from h]; exact .base (.str _)⟩
instance {r : Rp α} : Kind (rLst r) "list" := ⟨fun e ⟨a, vs, h1, h2, _⟩ => by rw [h1]; exact .base (.lst (e _ _ h2))⟩
theorem tyx_tup {K : Fg} {H : Hp} {a : Addr} {vs : List V} (h : SqT K H a vs) : TyX K H (.ref a) (.type "tuple") := by
  rcases h with (h | ⟨o, h⟩) | ⟨o, its, n, h1, h2, _⟩
  · exact .base (.tup h)
  · exact .fTuple h
  · exact .kTuple h1 h2
instance {r : Rp α} : Kind (rTpv r) "tuple" := ⟨fun e ⟨a, vs, h1, h2, _⟩ => by rw [h1]; exact tyx_tup (ex_t e h2)⟩
instance {f : RpF α} : Kind (rTup f) "tuple" := ⟨fun e ⟨a, vs, h1, h2, _⟩ => by rw [h1]; exact tyx_tup (ex_t e h2)⟩
theorem c_isi {r : Rp α} {t : String} [hk : Kind r t] {x : α × String} {b : Bool} {Φ : Bool → List Own → Prop} (hb : PySem.W.kitOne K (.type t) (.type x.2) = some b) (k : Φ b O) (hK : ∀ j, (F j).K = K := by intro _; rfl) :
    CW F K B Γ O (.builtin "isinstance") (fCons r (fOne rTy)) x rBool Φ :=
  fun σ G H vs W ⟨v, ws, e, rv, u, e2, ru⟩ Q q => ⟨rIsi K, fun j => by rw [← hK j]; exact call_isi, v, .ty x.2, .type t, .type x.2, b, by rw [e, e2, show u = V.ty x.2 from ru], .ty _, hk.ty W.sub rv, hb, q b O _ G H k W (Ex.refl _) rfl⟩
end
/-- the env with the i-th slot set -/
class SetG (Γ : Gm) (i : Nat) (f : outParam (Option Slot → Gm)) : Prop where
  eq : ∀ s, f s = Γ.set i s
instance setG0 {Γ : Gm} {g : Option Slot} : SetG (g :: Γ) 0 (fun s => s :: Γ) := ⟨fun _ => rfl⟩
instance setGS {Γ : Gm} {g : Option Slot} {i : Nat} {f : Option Slot → Gm} [h : SetG Γ i f] : SetG (g :: Γ) (i + 1) (fun s => g :: f s) := ⟨fun s => by rw [h.eq]; rfl⟩
theorem wipe_at {σ : St} : ∀ {vs : List Nat} {j : Nat}, (wipe σ vs)[j]? = if j ∈ vs then (if j < σ.length then some none else none) else σ[j]?
  | [], j => by simp [wipe]
  | v :: vs, j => by
    unfold wipe
    by_cases h : v = j
    · subst h
      by_cases hl : v < σ.length
      · rw [List.getElem?_set_self (by rw [wipe_length]; exact hl)]
        simp [hl]
      · rw [List.getElem?_eq_none (by rw [List.length_set, wipe_length]; omega)]
        simp [hl]
    · rw [List.getElem?_set_ne h, wipe_at]
      have e : (j ∈ v :: vs) ↔ (j ∈ vs) := by
        rw [List.mem_cons]
        exact ⟨fun q => q.elim (fun z => (h z.symm).elim) id, Or.inr⟩
      by_cases hj : j ∈ vs
      · rw [if_pos hj, if_pos (e.mpr hj)]
      · rw [if_neg hj, if_neg fun z => hj (e.mp z)]
theorem wipe_set {σ : St} {i : Nat} {u : Option V} {vs : List Nat} (h : i ∈ vs) : wipe (σ.set i u) vs = wipe σ vs := by
  refine List.ext_getElem? fun (j : Nat) => ?_
  rw [wipe_at, wipe_at, List.length_set]
  by_cases hj : j ∈ vs
  · rw [if_pos hj, if_pos hj]
  · rw [if_neg hj, if_neg hj, List.getElem?_set_ne (show i ≠ j from fun z => hj (by rw [← z]; exact h))]
/-! ### statements -/
def DS (X : Cx) (K : Fg) (B : Bs) (Γ : Gm) (O : List Own) (sts : List Stmt) (D : Ends) : Prop := ∀ σ G H, Ws K B Γ O σ G H → WSs X sts D σ H
def RT (K : Fg) (B : Bs) (Γ : Gm) (O : List Own) {α : Type} (r : Rp α) (x : α) (D : Ends) : Prop := ∀ v σ G H, Ws K B Γ O σ G H → r.rep K G v x → D.rt v H
abbrev Us (X : Cx) : Unit → Cx := fun _ => X
section
variable {X : Cx} {K : Fg} {B : Bs} {Γ Γ' : Gm} {O O' : List Own} {α β : Type} {ra : Rp α} {D D0 : Ends} {e c : Expr} {rest sa sb : List Stmt} {n : Str} {pos p : Pos}
variable {P : Program} {w : World} {mg : Str → Option Value} {base : Heap} {k : Nat}
/-- the own objects in another order, some dropped -/
theorem s_own (q : DS X K B Γ O' rest D) (hs : ∀ w ∈ O', w ∈ O) (hn : (O.map (·.a)).Nodup → (O'.map (·.a)).Nodup) : DS X K B Γ O rest D := fun σ G H W => q σ G H (W.perm hs hn)
theorem s_nil (h : ∀ σ G H, Ws K B Γ O σ G H → D.nx σ H) : DS X K B Γ O [] D := fun σ G H W => WSs.nil (h σ G H W)
/-- out of a branch -/
theorem s_out (h : DS X K B Γ O rest D0) : DS X K B Γ O [] { D0 with nx := WSs X rest D0 } := fun σ G H W => WSs.nil (h σ G H W)
theorem s_set [fam : Fam (Us X) P w K mg base k] (i : Nat) {f : Option Slot → Gm} [hg : SetG Γ i f] (h : DW (Us X) K B Γ O e ra fun x O' => DS X K B (f (some ⟨ra, x⟩)) O' rest D) (hi : X.N[i]? = some n := by rfl)
    (hx : Loc X.env.scope n := by first | exact Or.inl rfl | exact Or.inr rfl) (hs : swapsWith e (some (.Name n p)) pos.line X.env = pure false := by rfl) (hf : X.fn n = true ∨ X.env.scope.names.lookup n = some .local := by first | exact .inr rfl | exact .inl rfl) :
    DS X K B Γ O (.Assign [.Name n p] e pos :: rest) D := by
  intro σ G H W
  refine WSs.cons (ps_set (te := WE (Us X) e) (fam.nd ()) hi hx (WE.pe (F := Us X) ()) hs hf) ?_
  exact h σ G H W _ fun x O' v G' H' k W' _ r => k _ G' H' (by rw [hg.eq]; exact W'.set i r)
theorem s_if (h : DT (Us X) K B Γ O c fun b O' => (b = true → DS X K B Γ O' sa { D with nx := WSs X rest D }) ∧ (b = false → DS X K B Γ O' sb { D with nx := WSs X rest D })) : DS X K B Γ O (.If c sa sb pos :: rest) D := by
  intro σ G H W
  refine WSs.cons (ps_if (tc := WT (Us X) c) (WT.pt (F := Us X) ()) WSs.pss WSs.pss) ?_
  refine h σ G H W _ fun b O' G' H' k W' _ => ?_
  cases b with
  | true => exact k.1 rfl σ G' H' W'
  | false => exact k.2 rfl σ G' H' W'
theorem s_ret (h : DW (Us X) K B Γ O e ra fun x O' => RT K B Γ O' ra x D) : DS X K B Γ O (.Return (some e) pos :: rest) D := by
  intro σ G H W
  refine WSs.cons (ps_ret (te := WE (Us X) e) (WE.pe (F := Us X) ())) ?_
  exact h σ G H W _ fun x O' v G' H' k W' _ r => k v σ G' H' W' r
theorem s_expr (h : DW (Us X) K B Γ O e ra fun _ O' => DS X K B Γ O' rest D) (hs : swapsWith e none pos.line X.env = pure false := by rfl) : DS X K B Γ O (.Expr e pos :: rest) D := by
  intro σ G H W
  refine WSs.cons (ps_expr (te := WE (Us X) e) (WE.pe (F := Us X) ()) hs) ?_
  exact h σ G H W _ fun x O' v G' H' k W' _ r => k _ G' H' W'
/-! targets -/
def DG {ι : Type} (F : ι → Cx) (K : Fg) (B : Bs) (Γ : Gm) (O : List Own) (e : Expr) {α : Type} (r : Rp α) (x : α) (js : List Nat) (Φ : Gm → Prop) : Prop :=
  ∀ σ G H v, Ws K B Γ O σ G H → r.rep K G v x → ∀ Q : St → Hp → Prop, (∀ Γ' σ', Φ Γ' → Ws K B Γ' O σ' G H → (∀ vs : List Nat, (∀ j ∈ js, j ∈ vs) → wipe σ' vs = wipe σ vs) → Q σ' H) → WG F e v σ H Q
def DGs {ι : Type} (F : ι → Cx) (K : Fg) (B : Bs) (Γ : Gm) (O : List Own) (es : List Expr) {α : Type} (f : RpF α) (x : α) (js : List Nat) (Φ : Gm → Prop) : Prop :=
  ∀ σ G H vs, Ws K B Γ O σ G H → f.rep K G vs x → ∀ Q : St → Hp → Prop, (∀ Γ' σ', Φ Γ' → Ws K B Γ' O σ' G H → (∀ vs : List Nat, (∀ j ∈ js, j ∈ vs) → wipe σ' vs = wipe σ vs) → Q σ' H) → WGs F es vs σ H Q
section
variable {ι : Type} {F : ι → Cx}
theorem g_name [fam : Fam F P w K mg base k] (i : Nat) {f : Option Slot → Gm} [hg : SetG Γ i f] {x : α} {Φ : Gm → Prop} (q : Φ (f (some ⟨ra, x⟩))) (hi : ∀ j, (F j).N[i]? = some n := by intro _; rfl)
    (hx : ∀ j, Loc (F j).env.scope n := by intro _; first | exact Or.inl rfl | exact Or.inr rfl)
    (hf : ∀ j, (F j).fn n = true ∨ (F j).env.scope.names.lookup n = some .local := by intro _; first | exact .inr rfl | exact .inl rfl) : DG F K B Γ O (.Name n pos) ra x [i] Φ :=
  fun σ G H v W r Q k => ⟨_, fun j => pg_name (fam.nd j) (hi j) (hx j) (hf j), k _ _ q (by rw [hg.eq]; exact W.set i r) fun vs hv => wipe_set (hv i (by simp))⟩
theorem gs_one {js : List Nat} {x : α} {Φ : Gm → Prop} (h : DG F K B Γ O e ra x js Φ) (hs : ∀ j, (assignEach [e] (F j).env).map (·.2) = assign e (F j).env :: (assignEach [] (F j).env).map (·.2) := by intro _; rfl) : DGs F K B Γ O [e] (fOne ra) x js Φ := by
  intro σ G H vs W ⟨v, e1, r⟩ Q k
  exact ⟨_, fun j => pgs_cons (WG.pg j) pgs_nil (hs j), v, [], e1, h σ G H v W r _ fun Γ' σ' q W' hw => ⟨rfl, k Γ' σ' q W' hw⟩⟩
theorem gs_cons {js ks : List Nat} {es : List Expr} {f : RpF β} {x : α × β} {Φ : Gm → Prop} (h : DG F K B Γ O e ra x.1 js fun Γ1 => DGs F K B Γ1 O es f x.2 ks Φ)
    (hs : ∀ j, (assignEach (e :: es) (F j).env).map (·.2) = assign e (F j).env :: (assignEach es (F j).env).map (·.2) := by intro _; rfl) : DGs F K B Γ O (e :: es) (fCons ra f) x (js ++ ks) Φ := by
  intro σ G H vs W ⟨v, ws, e1, r, rf⟩ Q k
  exact ⟨_, fun j => pgs_cons (WG.pg j) (WGs.pgs j) (hs j), v, ws, e1, h σ G H v W r _ fun Γ' σ' q W' hw => q σ' G H ws W' rf Q fun Γ2 σ2 q2 W2 hw2 => k Γ2 σ2 q2 W2 fun vs hv =>
    (hw2 vs fun j hj => hv j (List.mem_append_right _ hj)).trans (hw vs fun j hj => hv j (List.mem_append_left _ hj))⟩
theorem g_tup [fam : Fam F P w K mg base k] {js : List Nat} {es : List Expr} {f : RpF α} {j m : Nat} [hl : Len f m] {x : α} {Φ : Gm → Prop} (h : DGs F K B Γ O es f x js Φ)
    (hn : ∀ j, (assignEach es (F j).env).length = m := by intro _; rfl) (hst : ∀ j, (assignEach es (F j).env).findIdx? (·.1) = none := by intro _; rfl) : DG F K B Γ O (.Tuple es j pos) (rTup f) x js Φ := by
  intro σ G H v W ⟨a, vs, e1, h1, h2⟩ Q q
  refine ⟨gTup K m (WGs F es), fun i => ?_, a, vs, e1, ex_t W.sub h1, hl.len h2, h σ G H vs W h2 Q q⟩
  have p := pg_tup (X := F i) (pos := pos) (k := j) (fam.cm i) (WGs.pgs i) (hn i) (hst i)
  rw [fam.ka i] at p
  exact p
end
/-- target = e -/
theorem s_asg {tg : Expr} {js : List Nat} (h : DW (Us X) K B Γ O e ra fun x O' => DG (Us X) K B Γ O' tg ra x js fun Γ' => DS X K B Γ' O' rest D) (hs : swapsWithSole [tg] e pos.line X.env = pure false := by rfl) (hw : swappedStores [tg] e X.env = pure none := by rfl)
    (h1 : (assignEach [tg] X.env).map (·.2) = [assign tg X.env] := by rfl) : DS X K B Γ O (.Assign [tg] e pos :: rest) D := by
  intro σ G H W
  refine WSs.cons (ps_asg (te := WE (Us X) e) (g := WG (Us X) tg) (WE.pe (F := Us X) ()) (WG.pg (F := Us X) ()) hs hw h1) ?_
  exact h σ G H W _ fun x O' v G' H' k W' _ r => k σ G' H' v W' r _ fun Γ' σ' q W2 _ => q σ' G' H' W2
/-- name op= e -/
theorem s_aug [fam : Fam (Us X) P w K mg base k] (i : Nat) {f : Int → Int → Int} {op : Operator} {x : Int} {fg : Option Slot → Gm} [hA : At Γ i rInt x] [hg : SetG Γ i fg] (ho : PIp X op (ipI f)) (h : DW (Us X) K B Γ O e rInt fun y O' => DS X K B (fg (some ⟨rInt, f x y⟩)) O' rest D)
    (hi : X.N[i]? = some n := by rfl) (hx : Loc X.env.scope n := by first | exact Or.inl rfl | exact Or.inr rfl) (hf : X.fn n = true ∨ X.env.scope.names.lookup n = some .local := by first | exact .inr rfl | exact .inl rfl) :
    DS X K B Γ O (.AugAssign (.Name n p) op e pos :: rest) D := by
  intro σ G H W
  obtain ⟨u, h1, h2⟩ := W.env.get hA.get
  refine WSs.cons (ps_aug (te := WE (Us X) e) (fam.nd ()) hi hx (WE.pe (F := Us X) ()) ho hf) ?_
  refine ⟨u, h1, h σ G H W _ fun y O' v G' H' k W' e' r => ⟨x, y, h2, r, k _ G' H' (by rw [hg.eq]; exact W'.set i rfl)⟩⟩
end
/-! ### what is walked -/
/-- the walked thing J gives the items xs, one by one, wherever Gb stands -/
structure Gives (K : Fg) (T : List Addr) (Gb : Hp) (J : It) {α : Type} (r : Rp α) (xs : List α) : Prop where
  go : ∀ i G H, i < xs.length → Ex Gb G → Ex G H → J.go i H
  stop : ∀ G H, Ex Gb G → Ex G H → J.stop xs.length H
  yld : ∀ i G H v H', i < xs.length → Ex Gb G → Ex G H → J.yld i H v H' → ∃ x G', xs[i]? = some x ∧ Stp T [] G H G' H' ∧ r.rep K G' v x
def DI {ι : Type} (F : ι → Cx) (K : Fg) (B : Bs) (Γ : Gm) (O : List Own) (tg e : Expr) {α : Type} (r : Rp α) (Φ : List α → List Own → Prop) : Prop :=
  ∀ σ G H, Ws K B Γ O σ G H → ∀ R : It → Hp → Prop, (∀ xs J O' G' H', Φ xs O' → Gives K B.T G' J r xs → Ws K B Γ O' σ G' H' → Ex G G' → R J H') → WI F tg e σ H R
section
variable {ι : Type} {F : ι → Cx} {K : Fg} {B : Bs} {Γ : Gm} {O : List Own} {α β γ : Type} {ra : Rp α} {rb : Rp β} {e a b tg : Expr} {n : Str} {p pos : Pos}
variable {P : Program} {w : World} {mg : Str → Option Value} {base : Heap} {k : Nat}
theorem Gives.list {T : List Addr} {Gb : Hp} {c : Addr} {vs : List V} {xs : List α} (h : SqL K Gb c vs) (r : All2 (ra.rep K Gb) vs xs) : Gives K T Gb (Itl K c) ra xs where
  go := fun i G H hi e1 e2 => by
    have hv : i < vs.length := by rw [r.length]; exact hi
    exact ⟨vs, vs[i], ex_l (e1.trans e2) h, List.getElem?_eq_getElem hv⟩
  stop := fun G H e1 e2 => ⟨vs, ex_l (e1.trans e2) h, by rw [r.length]; exact Nat.le_refl _⟩
  yld := fun i G H v H' hi e1 e2 ⟨h1, h2⟩ => by
    obtain ⟨x, hx, hr⟩ := r.get (h2 vs (ex_l (e1.trans e2) h))
    subst h1
    exact ⟨x, G, hx, Stp.refl e2, ra.mono e1 hr⟩
theorem Gives.tup {T : List Addr} {Gb : Hp} {c : Addr} {vs : List V} {xs : List α} (h : SqT K Gb c vs) (r : All2 (ra.rep K Gb) vs xs) : Gives K T Gb (Itt K c) ra xs where
  go := fun i G H hi e1 e2 => by
    have hv : i < vs.length := by rw [r.length]; exact hi
    exact ⟨vs, vs[i], ex_t (e1.trans e2) h, List.getElem?_eq_getElem hv⟩
  stop := fun G H e1 e2 => ⟨vs, ex_t (e1.trans e2) h, by rw [r.length]; exact Nat.le_refl _⟩
  yld := fun i G H v H' hi e1 e2 ⟨h1, h2⟩ => by
    obtain ⟨x, hx, hr⟩ := r.get (h2 vs (ex_t (e1.trans e2) h))
    subst h1
    exact ⟨x, G, hx, Stp.refl e2, ra.mono e1 hr⟩
/-- lo, lo + c, .. -/
def rgI (lo c : Int) (m : Nat) : List Int := (List.range m).map fun i : Nat => lo + (i : Int) * c
theorem rgI_len (lo c : Int) (m : Nat) : (rgI lo c m).length = m := by unfold rgI; rw [List.length_map, List.length_range]
theorem rgI_get {lo c : Int} {m i : Nat} (h : i < m) : (rgI lo c m)[i]? = some (lo + (i : Int) * c) := by
  unfold rgI
  rw [List.getElem?_map, List.getElem?_range h]
  rfl
theorem Gives.rng {T : List Addr} {Gb : Hp} (lo : Int) (m : Nat) : Gives K T Gb (Itr lo m) rInt (rgI lo 1 m) where
  go := fun i G H hi e1 e2 => by rw [rgI_len] at hi; exact hi
  stop := fun G H e1 e2 => by rw [rgI_len]; exact Nat.le_refl _
  yld := fun i G H v H' hi e1 e2 ⟨h1, h2⟩ => by
    rw [rgI_len] at hi
    subst h1
    exact ⟨_, G, rgI_get hi, Stp.refl e2, by rw [h2, Int.mul_one]; rfl⟩
theorem w_lst [fam : Fam F P w K mg base k] {Φ : List α → List Own → Prop} (h : DW F K B Γ O e (rLst ra) Φ) : DI F K B Γ O tg e ra Φ := by
  intro σ G H W R q
  refine ⟨iList K (WE F e), fun i => by rw [← fam.ka i]; exact pi_list (WE.pe i), ?_⟩
  exact h σ G H W _ fun xs O' v G' H' k W' e' ⟨c, vs, h1, h2, h3⟩ => ⟨c, h1, ⟨vs, SqL.of (W'.sub _ _ h2)⟩, q xs _ O' G' H' k (Gives.list (SqL.of h2) h3) W' e'⟩
theorem w_seq [fam : Fam F P w K mg base k] {Φ : List α → List Own → Prop} (h : DW F K B Γ O e (rSeq ra) Φ) : DI F K B Γ O tg e ra Φ := by
  intro σ G H W R q
  refine ⟨iList K (WE F e), fun i => by rw [← fam.ka i]; exact pi_list (WE.pe i), ?_⟩
  exact h σ G H W _ fun xs O' v G' H' k W' e' ⟨c, vs, h1, h2, h3⟩ => ⟨c, h1, ⟨vs, ex_l W'.sub h2⟩, q xs _ O' G' H' k (Gives.list h2 h3) W' e'⟩
theorem w_tpv [fam : Fam F P w K mg base k] {Φ : List α → List Own → Prop} (h : DW F K B Γ O e (rTpv ra) Φ) : DI F K B Γ O tg e ra Φ := by
  intro σ G H W R q
  refine ⟨iTup K (WE F e), fun i => by rw [← fam.ka i]; exact pi_tup (WE.pe i), ?_⟩
  exact h σ G H W _ fun xs O' v G' H' k W' e' ⟨c, vs, h1, h2, h3⟩ => ⟨c, h1, ⟨vs, ex_t W'.sub h2⟩, q xs _ O' G' H' k (Gives.tup h2 h3) W' e'⟩
theorem w_rng1 [fam : Fam F P w K mg base k] {Φ : List Int → List Own → Prop} (hm : mg "range" = none) (h : DW F K B Γ O a rInt fun j O1 => (-(2 ^ 62) ≤ j ∧ j < 2 ^ 62) ∧ Φ (rgI 0 1 j.toNat) O1)
    (hg : ∀ i, Gl (F i) "range" := by intro _; rfl) (hs : ∀ i, starEach [a] (F i).env = [(false, eval a (F i).env)] := by intro _; rfl) : DI F K B Γ O tg (.Call (.Name "range" p) [a] [] pos) rInt Φ := by
  intro σ G H W R q
  refine ⟨iRng1 (tCons (WE F a) tNil), fun i => pi_range1 (hg i) (by rw [fam.mg i]; exact hm) (pa_cons (WE.pe i) pa_nil (hs i)) (hs i), ?_⟩
  refine h σ G H W _ fun j O' v G' H' k W' e' r => ⟨j, by rw [show v = V.int j from r], k.1.1, k.1.2, q _ _ O' G' H' k.2 (Gives.rng 0 j.toNat) W' e'⟩
theorem w_rng2 [fam : Fam F P w K mg base k] {Φ : List Int → List Own → Prop} (hm : mg "range" = none) (h : DW F K B Γ O a rInt fun i O1 => DW F K B Γ O1 b rInt fun j O2 => (-(2 ^ 62) ≤ i ∧ i < 2 ^ 62 ∧ -(2 ^ 62) ≤ j ∧ j < 2 ^ 62) ∧ Φ (rgI i 1 (j - i).toNat) O2)
    (hg : ∀ i, Gl (F i) "range" := by intro _; rfl) (hs : ∀ i, starEach [a, b] (F i).env = [(false, eval a (F i).env), (false, eval b (F i).env)] := by intro _; rfl) (hs2 : ∀ i, starEach [b] (F i).env = [(false, eval b (F i).env)] := by intro _; rfl) :
    DI F K B Γ O tg (.Call (.Name "range" p) [a, b] [] pos) rInt Φ := by
  intro σ G H W R q
  refine ⟨iRng2 (tCons (WE F a) (tCons (WE F b) tNil)), fun i => pi_range2 (hg i) (by rw [fam.mg i]; exact hm) (pa_cons (WE.pe i) (pa_cons (WE.pe i) pa_nil (hs2 i)) ?_) (hs i) (hs2 i), ?_⟩
  · rw [hs i, hs2 i]
  · refine h σ G H W _ fun i O1 v G1 H1 k1 W1 e1 r1 => ?_
    exact k1 σ G1 H1 W1 _ fun j O' u G' H' k W' e' r => ⟨i, j, by rw [show u = V.int j from r, show v = V.int i from r1], k.1, q _ _ O' G' H' k.2 (Gives.rng i (j - i).toNat) W' (e1.trans e')⟩
end
/-! ### loops -/
section
variable {X : Cx} {K : Fg} {B : Bs} {Γ Γ' : Gm} {O O' : List Own} {α β : Type} {ra : Rp α} {D D0 : Ends} {e c tg iter : Expr} {rest body : List Stmt} {n : Str} {pos p : Pos}
variable {P : Program} {w : World} {mg : Str → Option Value} {base : Heap} {k : Nat}
/-- one more heap that stays told -/
abbrev Bs.push (B : Bs) (g : Hp) : Bs := { B with bs := g :: B.bs }
/-- what holds between two turns: d with P -/
def LpJ (K : Fg) (B : Bs) {δ : Type} (Pv : δ → Prop) (Γf : δ → Gm) (Of : δ → List Own) : St → Hp → Prop := fun σ H => ∃ d G, Pv d ∧ Ws K B (Γf d) (Of d) σ G H
def LpE (X : Cx) (K : Fg) (B : Bs) {δ : Type} (Pv : δ → Prop) (Γf : δ → Gm) (Of : δ → List Own) (rest : List Stmt) (D : Ends) : Ends :=
  { nx := LpJ K B Pv Γf Of, rt := D.rt, bk := WSs X rest D, ct := LpJ K B Pv Γf Of }
/-- the end of a turn -/
theorem s_next {δ : Type} {Pv : δ → Prop} {Γf : δ → Gm} {Of : δ → List Own} (d : δ) (h : Pv d) (hw : Wk Γ (Γf d)) (ho : O = Of d) : DS X K B Γ O [] (LpE X K B Pv Γf Of rest D) :=
  s_nil fun σ G H W => ⟨d, G, h, by rw [← ho]; exact W.wk hw⟩
theorem s_for [fam : Fam (Us X) P w K mg base k] {js : List Nat}
    (h : DI (Us X) K B Γ O tg iter ra fun xs O1 => ∃ (δ : Type) (Pv : Nat → δ → Prop) (Γf : δ → Gm) (Of : δ → List Own), (∃ d, Pv 0 d ∧ Wk Γ (Γf d) ∧ O1 = Of d) ∧
      (∀ g i x d, xs[i]? = some x → Pv i d → DG (Us X) K (B.push g) (Γf d) (Of d) tg ra x js fun Γ' => DS X K (B.push g) Γ' (Of d) body (LpE X K (B.push g) (Pv (i + 1)) Γf Of rest D)) ∧
      (∀ d, Pv xs.length d → DS X K B (Γf d) (Of d) rest D))
    (hp : PassesOwn (model X.prog X.w) X.A X.env X.xe := by first | exact PassesOwn.never | assumption) (hs : ∀ x, foldedSetIterable iter X.env x = pure x := by intro _; rfl) : DS X K B Γ O (.For tg iter body [] pos :: rest) D := by
  intro σ G H W
  refine WSs.cons (ps_for hp (fam.cm ()) (WI.pi (F := Us X) ()) (WG.pg (F := Us X) ()) (WSs.pss (X := X)) hs) ?_
  refine h σ G H W _ fun xs J O1 G1 H1 ⟨δ, Pv, Γf, Of, ⟨d0, p0, w0, o0⟩, hst, hd⟩ gv W1 _ => ?_
  refine ⟨fun i m σ H => m = xs.length - i ∧ i ≤ xs.length ∧ LpJ K (B.push G1) (Pv i) Γf Of σ H, ⟨xs.length, by simp, Nat.zero_le _, d0, G1, p0, ?_⟩, ?_⟩
  · rw [← o0]
    exact (W1.wk w0).base
  rintro i m σ2 H2 ⟨rfl, hi, d, G2, pd, W2⟩
  have eb : Ex G1 G2 := W2.bs G1 List.mem_cons_self
  by_cases hlt : i < xs.length
  · refine .inr ⟨gv.go i G2 H2 hlt eb W2.sub, LpJ K (B.push G1) (Pv (i + 1)) Γf Of, fun σ' H' j => ⟨xs.length - (i + 1), by omega, rfl, hlt, j⟩, fun v H3 y => ?_⟩
    obtain ⟨x, G3, hx, s3, r3⟩ := gv.yld i G2 H2 v H3 hlt eb W2.sub y
    exact hst G1 i x d hx pd σ2 G3 H3 v (W2.step s3) r3 _ fun Γ' σ' q W' _ => q σ' G3 H3 W'
  · obtain rfl : i = xs.length := by omega
    exact .inl ⟨gv.stop G2 H2 eb W2.sub, hd d pd σ2 G2 H2 W2.unbase⟩
theorem s_while {δ : Type} (Pv : δ → Prop) (μ : δ → Nat) (Γf : δ → Gm) (Of : δ → List Own) (d0 : δ) (p0 : Pv d0) (w0 : Wk Γ (Γf d0)) (o0 : O = Of d0)
    (h : ∀ d, Pv d → DT (Us X) K B (Γf d) (Of d) c fun b O' => (b = true → DS X K B (Γf d) O' body (LpE X K B (fun d' => Pv d' ∧ μ d' < μ d) Γf Of rest D)) ∧ (b = false → DS X K B (Γf d) O' rest D))
    (hp : PassesOwn (model X.prog X.w) X.A X.env X.xe := by first | exact PassesOwn.never | assumption) : DS X K B Γ O (.While c body [] pos :: rest) D := by
  intro σ G H W
  refine WSs.cons (ps_while hp (WT.pt (F := Us X) ()) (WSs.pss (X := X))) ?_
  refine ⟨fun m σ H => ∃ d G, m = μ d ∧ Pv d ∧ Ws K B (Γf d) (Of d) σ G H, ⟨μ d0, d0, G, rfl, p0, by rw [← o0]; exact W.wk w0⟩, ?_⟩
  rintro m σ2 H2 ⟨d, G2, rfl, pd, W2⟩
  refine h d pd σ2 G2 H2 W2 _ fun b O' G' H' k W' _ => ?_
  cases b with
  | true =>
    refine iteT ⟨LpJ K B (fun d' => Pv d' ∧ μ d' < μ d) Γf Of, fun σ' H' ⟨d', G', ⟨p', l⟩, W'⟩ => ⟨μ d', l, d', G', rfl, p', W'⟩, ?_⟩
    exact k.1 rfl σ2 G' H' W'
  | false => exact iteF (k.2 rfl σ2 G' H' W')
end
end Sk
set_option Elab.async false
set_option linter.all false
set_option maxRecDepth 100000
set_option maxHeartbeats 4100000
/-! Sk4: own objects that change, comprehensions, promises of defs, dicts by written keys. -/
namespace Sk
open PySem L2 Evl
/-! ### own objects -/
section
variable {K : Fg} {B : Bs} {Γ Γ' : Gm} {O O' : List Own} {σ : St} {G H G' H' : Hp}
theorem nd_idx {α : Type} {l : List α} (hN : l.Nodup) {i j : Nat} {x : α} (a : l[i]? = some x) (b : l[j]? = some x) : i = j := L2.nd_ix hN a b
/-- the j-th own object changes -/
theorem Ws.mutAt {α β : Type} {j : Nat} {p : Addr} {o : HO} {r : Ow α} {x : α} {r' : Ow β} {x' : β} (W : Ws K B Γ O σ G H) (hj : O[j]? = some ⟨p, r, x⟩) (h : r'.rep K G o x') : Ws K B Γ (O.set j ⟨p, r', x'⟩) σ G (upd H p o) := by
  obtain ⟨_, h3, h4, h5⟩ := W.own _ (List.mem_of_getElem? hj)
  have hl : j < O.length := (List.getElem?_eq_some_iff.mp hj).1
  have s : Stp B.T [p] G H G (upd H p o) := Stp.mut W.sub h3 h4
  have em : (O.set j ⟨p, r', x'⟩).map (·.a) = O.map (·.a) := by
    refine List.ext_getElem? fun i => ?_
    rw [List.getElem?_map (l := O.set j _), List.getElem?_map (l := O)]
    by_cases hi : j = i
    · subst hi
      rw [List.getElem?_set_self hl, hj]
      rfl
    · rw [List.getElem?_set_ne hi]
  refine ⟨W.st.trans s fun c hc => ?_, fun P hP => ⟨s.tab P hP (W.tab P hP).1, (W.tab P hP).2⟩, W.bs, W.env, fun w hw => ?_, by rw [em]; exact W.nd, W.mh⟩
  · have e : c = p := by simpa using hc
    subst e
    exact h5.symm
  · obtain ⟨i, hi⟩ := List.getElem?_of_mem hw
    by_cases hij : j = i
    · subst hij
      rw [List.getElem?_set_self hl] at hi
      have e := Option.some.inj hi
      subst e
      exact ⟨⟨o, upd_same, h⟩, h3, h4, h5⟩
    · rw [List.getElem?_set_ne hij] at hi
      obtain ⟨⟨u, g1, g2⟩, g3, g4, g5⟩ := W.own w (List.mem_of_getElem? hi)
      have ne : w.a ≠ p := fun e => hij (nd_idx W.nd (by rw [List.getElem?_map, hj]; rfl) (by rw [List.getElem?_map, hi, ← e]; rfl))
      exact ⟨⟨u, by rw [upd_ne ne]; exact g1, g2⟩, g3, g4, g5⟩
/-- where an own object stands among the others -/
class OwnAt (O : List Own) (p : Addr) {α : outParam Type} (r : outParam (Ow α)) (x : outParam α) (f : outParam (Own → List Own)) : Prop where
  at_ : ∃ j, O[j]? = some ⟨p, r, x⟩ ∧ ∀ w, f w = O.set j w
instance (priority := high) ownAt0 {O : List Own} {p : Addr} {α : Type} {r : Ow α} {x : α} : OwnAt (⟨p, r, x⟩ :: O) p r x (fun w => w :: O) := ⟨⟨0, rfl, fun _ => rfl⟩⟩
instance ownAtS {O : List Own} {v : Own} {p : Addr} {α : Type} {r : Ow α} {x : α} {f : Own → List Own} [h : OwnAt O p r x f] : OwnAt (v :: O) p r x (fun w => v :: f w) := ⟨by
  obtain ⟨j, h1, h2⟩ := h.at_
  exact ⟨j + 1, h1, fun w => by rw [h2]; rfl⟩⟩
theorem Ws.mutO {α β : Type} {p : Addr} {o : HO} {r : Ow α} {x : α} {r' : Ow β} {x' : β} {f : Own → List Own} [h : OwnAt O p r x f] (W : Ws K B Γ O σ G H) (hr : r'.rep K G o x') : Ws K B Γ (f ⟨p, r', x'⟩) σ G (upd H p o) := by
  obtain ⟨j, h1, h2⟩ := h.at_
  rw [h2]
  exact W.mutAt h1 hr
theorem Ws.ownO {α : Type} {p : Addr} {r : Ow α} {x : α} {f : Own → List Own} (h : OwnAt O p r x f) (W : Ws K B Γ O σ G H) : ∃ o, H p = some o ∧ r.rep K G o x := by
  obtain ⟨j, h1, h2⟩ := h.at_
  exact (W.own _ (List.mem_of_getElem? h1)).ob
/-- from here on it will not change -/
theorem Ws.frz {α : Type} {p : Addr} {r : Ow α} {x : α} (W : Ws K B Γ (⟨p, r, x⟩ :: O) σ G H) (hM : p ∉ B.M) : ∃ o, r.rep K G o x ∧ Ws K B Γ O σ (upd G p o) H ∧ Ex G (upd G p o) := by
  obtain ⟨⟨o, h1, h2⟩, h3, h4, h5⟩ := W.own _ List.mem_cons_self
  have h0 : B.H0 p = none := h5.resolve_right hM
  have e1 : Ex G (upd G p o) := Ex.new h3
  refine ⟨o, h2, ⟨⟨fun a u e => ?_, W.st.g.trans e1, W.st.h, W.st.th, fun a q q2 => ?_, W.st.tab⟩, fun P hP => ⟨(W.tab P hP).1, ?_⟩, fun g hg => (W.bs g hg).trans e1, W.env.mono e1, fun w hw => ?_, (List.nodup_cons.mp W.nd).2, W.mh⟩, e1⟩
  · by_cases q : a = p
    · subst q
      rw [upd_same] at e
      rw [← e]
      exact h1
    · rw [upd_ne q] at e
      exact W.sub a u e
  · by_cases q3 : a = p
    · rw [q3]
      exact h0
    · rw [upd_ne q3] at q2
      exact W.st.fr a q q2
  · rw [upd_ne (show P ≠ p from fun z => h4 (by rw [← z]; exact hP))]
    exact (W.tab P hP).2
  · obtain ⟨⟨u, g1, g2⟩, g3, g4, g5⟩ := W.own w (List.mem_cons_of_mem _ hw)
    have ne : w.a ≠ p := fun e => (List.nodup_cons.mp W.nd).1 (List.mem_map.mpr ⟨w, hw, e⟩)
    exact ⟨⟨u, g1, w.r.mono e1 g2⟩, by rw [upd_ne ne]; exact g3, g4, g5⟩
end
section
variable {ι : Type} {F : ι → Cx} {K : Fg} {B : Bs} {Γ : Gm} {O : List Own} {α β γ : Type} {ra : Rp α} {rb : Rp β} {e a b tg o : Expr} {es : List Expr} {n : Str} {p pos apos : Pos}
variable {P : Program} {w : World} {mg : Str → Option Value} {base : Heap} {k : Nat}
theorem i_lstO {q : Addr} {xs : List α} {i : Int} {x : α} {f : Own → List Own} [ho : OwnAt O q (oLst ra) xs f] {Φ : α → List Own → Prop} (h : atI xs i = some x) (k : Φ x O) (hK : ∀ j, (F j).K = K := by intro _; rfl) : IW F K B Γ O rAdr rInt q i ra Φ := by
  intro σ G H v w W rv rw Q q'
  obtain ⟨u, h2, ws, h3, h4⟩ := W.ownO ho
  subst h3
  unfold atI at h
  obtain ⟨j, h5, h6⟩ := Option.bind_eq_some_iff.mp h
  obtain ⟨u, h7, h8⟩ := h4.get' h6
  refine ⟨rIxL K, fun j => by rw [← hK j]; exact ix_list, q, ws, i, u, rv, rw, SqL.of h2, ?_, q' x O u G H k W (Ex.refl _) h8⟩
  unfold atI
  rw [h4.length, h5]
  exact h7
/-- a method of an own list, of a list: what it asks of values -/
def MW (F : ι → Cx) (K : Fg) (B : Bs) (Γ : Gm) (O : List Own) (r : V → List V → Hp → VK → Prop) (ra : Rp α) (x : α) (f : RpF β) (y : β) (rc : Rp γ) (Φ : γ → List Own → Prop) : Prop :=
  ∀ σ G H v vs, Ws K B Γ O σ G H → ra.rep K G v x → f.rep K G vs y → ∀ Q : VK, (∀ z O' u G' H', Φ z O' → Ws K B Γ O' σ G' H' → Ex G G' → rc.rep K G' u z → Q u H') → r v vs H Q
theorem d_bm [fam : Fam F P w K mg base k] {T id : String} {name : Str} {r : V → List V → Hp → VK → Prop} {f : RpF β} {Φ : γ → List Own → Prop} (pa : PlainAttrs T) (slot : PySem.Slot T name id) (hty : typeOf (.builtin id) = pure (.type "method_descriptor")) (hm : ∀ j, MtR (F j) id r)
    (h : DW F K B Γ O o ra fun x O1 => (∀ σ G H v, Ws K B Γ O1 σ G H → ra.rep K G v x → tyV K T v H) ∧ DA F K B Γ O1 (e :: es) f fun y O2 => MW F K B Γ O2 r ra x f y rc Φ)
    (hbase : ∀ j, attributeBase o name (F j).env (eval o (F j).env) = eval o (F j).env := by intro _; rfl)
    (hfew : ∀ j, ((backTo pos (starEach (e :: es) (F j).env)).all (fun x => !x.1) && (backToKw pos (keywordEach [] (F j).env)).all (fun x => x.1.isSome)
      && decide ((e :: es).length + ([] : List Keyword).length + (if ([] : List Keyword).isEmpty then 0 else 1) < 30)) = true := by intro _; rfl)
    (hline : (apos.endLine == pos.line) = true := by rfl) (hs : ∀ j, starEach (e :: es) (F j).env = (false, eval e (F j).env) :: starEach es (F j).env := by intro _; rfl)
    (hpl : ∀ j, (backTo pos (starEach es (F j).env)).any (·.1) = false := by intro _; rfl) :
    DW F K B Γ O (.Call (.Attribute o name apos) (e :: es) [] pos) rc Φ := by
  intro σ G H W Q q
  refine ⟨tBM K T r (WE F o) (WA F (e :: es)), fun j => ?_, ?_⟩
  · have p := pe_bm (X := F j) pa slot hty (hm j) (WE.pe j) (WA.pa j) (hbase j) (hfew j) hline (hs j) (hpl j)
    rw [fam.ka j] at p
    exact p
  · refine h σ G H W _ fun x O1 v G1 H1 ⟨hT, k1⟩ W1 e1 r1 => ⟨hT σ G1 H1 v W1 r1, ?_⟩
    exact k1 σ G1 H1 W1 _ fun y O2 vs G2 H2 k2 W2 e2 r2 => k2 σ G2 H2 v vs W2 (ra.mono e2 r1) r2 Q fun z O' u G' H' kk W' e' r' => q z O' u G' H' kk W' ((e1.trans e2).trans e') r'
theorem tyO {O1 : List Own} {q : Addr} {xs : List α} {f : Own → List Own} (h : OwnAt O1 q (oLst ra) xs f) : ∀ σ G H v, Ws K B Γ O1 σ G H → rAdr.rep K G v q → tyV K "list" v H := fun σ G H v W r => by
  obtain ⟨u, h2, ws, h3, _⟩ := W.ownO h
  subst h3
  rw [show v = V.ref q from r]
  exact .inl ⟨rfl, ws, SqL.of h2⟩
/-- xs.append(e), an own list -/
theorem d_app [fam : Fam F P w K mg base k] {Φ : Unit → List Own → Prop} (h : DW F K B Γ O o rAdr fun q O1 => ∃ xs1 f1, OwnAt O1 q (oLst ra) xs1 f1 ∧ DW F K B Γ O1 e ra fun y O2 => ∃ xs f, OwnAt O2 q (oLst ra) xs f ∧ xs.length < sizeLine ∧ Φ () (f ⟨q, oLst ra, xs ++ [y]⟩))
    (hbase : ∀ j, attributeBase o "append" (F j).env (eval o (F j).env) = eval o (F j).env := by intro _; rfl)
    (hfew : ∀ j, ((backTo pos (starEach [e] (F j).env)).all (fun x => !x.1) && (backToKw pos (keywordEach [] (F j).env)).all (fun x => x.1.isSome)
      && decide ([e].length + ([] : List Keyword).length + (if ([] : List Keyword).isEmpty then 0 else 1) < 30)) = true := by intro _; rfl)
    (hline : (apos.endLine == pos.line) = true := by rfl) (hs : ∀ j, starEach [e] (F j).env = (false, eval e (F j).env) :: starEach [] (F j).env := by intro _; rfl) :
    DW F K B Γ O (.Call (.Attribute o "append" apos) [e] [] pos) rNon Φ := by
  refine d_bm (ra := rAdr) (f := fOne ra) PySem.F.plainAttrs_list PySem.F.slot_list_append PySem.F.type_list_append (fun j => mt_append) ?_ hbase hfew hline hs (fun _ => rfl)
  refine d_mono h fun q O1 ⟨xs1, f1, hO1, h1⟩ => ⟨tyO hO1, da_one (d_mono h1 fun y O2 ⟨xs, f, hO, hl, kk⟩ => ?_) hs⟩
  intro σ G H v vs W rv ⟨u, e1, ru⟩ Q q'
  obtain ⟨ob, h2, ws, h3, h4⟩ := W.ownO hO
  subst h3
  refine ⟨q, ws, u, rv, e1, h2, by rw [h4.length]; exact hl, q' () _ .non G _ kk ?_ (Ex.refl _) rfl⟩
  exact W.mutO (h := hO) (r' := oLst ra) (x' := xs ++ [y]) ⟨ws ++ [u], rfl, h4.append ⟨ru, trivial⟩⟩
end
/-! ### comprehensions -/
section
variable {ι : Type} {F : ι → Cx} {K : Fg} {B : Bs} {Γ : Gm} {O : List Own} {α β γ : Type} {ra : Rp α} {rb : Rp β} {e a b tg elt iter : Expr} {ifs : List Expr} {n : Str} {p pos : Pos} {scope : Scope}
variable {P : Program} {w : World} {mg : Str → Option Value} {base : Heap} {k : Nat}
theorem wipe_wipe {σ : St} {vs : List Nat} : wipe (wipe σ vs) vs = wipe σ vs := List.ext_getElem? fun j => by
  rw [wipe_at, wipe_at]
  by_cases hj : j ∈ vs
  · rw [if_pos hj, if_pos hj, wipe_length]
  · rw [if_neg hj, if_neg hj]
/-- the contexts of a comprehension's block -/
abbrev blkF {ι : Type} (F : ι → Cx) (scope : Scope) : ι × Shared × Hp × Addr × List (Str × Addr) × List Addr → Cx := fun j => (F j.1).blk j.2.1 j.2.2.1 scope (compEnvC scope j.2.2.2.2.1 j.2.2.2.1 (F j.1).env) j.2.2.2.2.2
instance famBlk [fam : Fam F P w K mg base k] : Fam (blkF F scope) P w K mg base k :=
  ⟨fun j => fam.pr j.1, fun j => fam.wd j.1, fun j => fam.ka j.1, fun j => fam.mg j.1, fun j => fam.bs j.1, fun j => fam.rm j.1, fun j => fam.cm j.1, fun j => fam.nd j.1⟩
theorem EnvR.dropAt {K : Fg} {G : Hp} : ∀ {σ : St} {Γ : Gm} (i : Nat), EnvR K G σ Γ → EnvR K G (σ.set i none) (Γ.set i none)
  | [], [], _, _ => trivial
  | v :: σ, none :: Γ, 0, h => (show EnvR K G σ Γ from h)
  | v :: σ, some s' :: Γ, 0, ⟨_, h⟩ => (show EnvR K G σ Γ from h)
  | v :: σ, none :: Γ, i + 1, h => EnvR.dropAt (σ := σ) (Γ := Γ) i h
  | v :: σ, some s' :: Γ, i + 1, ⟨a, h⟩ => ⟨a, EnvR.dropAt i h⟩
  | [], _ :: _, _, h => h.elim
  | _ :: _, [], _, h => h.elim
/-- the env with some slots forgotten -/
class WipeG (Γ : Gm) (vs : List Nat) (Γ' : outParam Gm) : Prop where
  env : ∀ {K : Fg} {G : Hp} {σ : St}, EnvR K G σ Γ → EnvR K G (wipe σ vs) Γ'
instance wipeNil {Γ : Gm} : WipeG Γ [] Γ := ⟨fun h => h⟩
instance wipeCons {Γ Γ' : Gm} {v : Nat} {vs : List Nat} {f : Option Slot → Gm} [h : WipeG Γ vs Γ'] [g : SetG Γ' v f] : WipeG Γ (v :: vs) (f none) := ⟨fun q => by
  rw [g.eq]
  exact (h.env q).dropAt v⟩
theorem Ws.env' {K : Fg} {B : Bs} {Γ Γ' : Gm} {O : List Own} {σ σ' : St} {G H : Hp} (W : Ws K B Γ O σ G H) (h : EnvR K G σ' Γ') : Ws K B Γ' O σ' G H := ⟨W.st, W.tab, W.bs, h, W.own, W.nd, W.mh⟩
theorem dts_nil {Φ : Bool → List Own → Prop} (h : Φ true O) : DTs F K B Γ O [] Φ := fun σ G H W Q q => ⟨_, fun _ => pts_nil, q true O G H h W (Ex.refl _)⟩
theorem dts_one {Φ : Bool → List Own → Prop} (h : DT F K B Γ O e Φ) : DTs F K B Γ O [e] Φ := fun σ G H W Q q => ⟨_, fun i => pts_one (WT.pt i), h σ G H W Q q⟩
/-- [elt for tg in iter if ..]: a list of one's own; behind i items ys is made and d holds -/
theorem d_lcO [fam : Fam F P w K mg base k] (own : List (Str × Nat)) (vs : List Nat) (ok : ∀ i, BlkOk (F i).N (F i).env.scope scope own) {Γ' : Gm} [hw : WipeG Γ vs Γ'] {js : List Nat} {Φ : Addr → List Own → Prop}
    (h : DI F K B Γ O tg iter ra fun xs O1 => ∃ (δ : Type) (Pv : Nat → List β → δ → Prop) (Of : δ → List Own), (∃ d, Pv 0 [] d ∧ O1 = Of d) ∧
      (∀ g D i x ys d, xs[i]? = some x → Pv i ys d → DG (blkF F scope) K (B.push g) Γ' (⟨D, oLst rb, ys⟩ :: Of d) tg ra x js fun Γ2 => DTs (blkF F scope) K (B.push g) Γ2 (⟨D, oLst rb, ys⟩ :: Of d) ifs fun t O2 =>
        (t = true → DW (blkF F scope) K (B.push g) Γ2 O2 elt rb fun y O3 => ∃ d', O3 = ⟨D, oLst rb, ys⟩ :: Of d' ∧ ys.length < sizeLine ∧ Pv (i + 1) (ys ++ [y]) d') ∧ (t = false → ∃ d', O2 = ⟨D, oLst rb, ys⟩ :: Of d' ∧ Pv (i + 1) ys d')) ∧
      (∀ D ys d, D ∉ B.M → Pv xs.length ys d → Φ D (⟨D, oLst rb, ys⟩ :: Of d)))
    (hv : own.map (·.2) = vs := by rfl) (hjs : ∀ j ∈ js, j ∈ vs := by decide) (hs : ∀ i x, foldedSetIterable iter (F i).env x = pure x := by intro _ _; rfl) :
    DW F K B Γ O (.ListComp elt [⟨tg, iter, ifs, 0⟩] scope pos) rAdr Φ := by
  intro σ G H W Q q
  refine ⟨tLc (WI F tg iter) (WG (blkF F scope) tg) (WTs (blkF F scope) ifs) (WE (blkF F scope) elt) (own.map (·.2)), fun i => pe_lc (fam.cm i) (fam.nd i) (WI.pi i) (ok i) (fun s H C cl fp => WG.pg (F := blkF F scope) (i, s, H, C, cl, fp))
    (fun s H C cl fp => WTs.pts (F := blkF F scope) (i, s, H, C, cl, fp)) (fun s H C cl fp => WE.pe (F := blkF F scope) (i, s, H, C, cl, fp)) (hs i), ?_⟩
  refine h σ G H W _ fun xs J O1 G1 H1 ⟨δ, Pv, Of, ⟨d0, p0, o0⟩, hst, hd⟩ gv W1 e1 D hD => ?_
  rw [hv]
  have hG : ∀ {G' : Hp}, Ex G1 G' → EnvR K G' σ Γ := fun e => W.env.mono (e1.trans e)
  refine ⟨fun i m H => m = xs.length - i ∧ i ≤ xs.length ∧ ∃ ys d G2, Pv i ys d ∧ Ws K (B.push G1) Γ' (⟨D, oLst rb, ys⟩ :: Of d) (wipe σ vs) G2 H, ⟨xs.length, by simp, Nat.zero_le _, [], d0, G1, p0, ?_⟩, ?_⟩
  · have W2 := (W1.newOwn hD (r := oLst rb) (x := []) ⟨[], rfl, trivial⟩).base
    rw [o0] at W2
    exact W2.env' (hw.env (hG (Ex.refl _)))
  rintro i m H2 ⟨rfl, hi, ys, d, G2, pd, W2⟩
  have eb : Ex G1 G2 := W2.bs G1 List.mem_cons_self
  by_cases hlt : i < xs.length
  · refine .inr ⟨gv.go i G2 H2 hlt eb W2.sub, fun H' => i + 1 ≤ xs.length ∧ ∃ ys d G2, Pv (i + 1) ys d ∧ Ws K (B.push G1) Γ' (⟨D, oLst rb, ys⟩ :: Of d) (wipe σ vs) G2 H', fun H' ⟨l, z⟩ => ⟨xs.length - (i + 1), by omega, rfl, l, z⟩, fun v H3 y => ?_⟩
    obtain ⟨x, G3, hx, s3, r3⟩ := gv.yld i G2 H2 v H3 hlt eb W2.sub y
    have W3 := W2.step s3
    refine hst G1 D i x ys d hx pd (wipe σ vs) G3 H3 v W3 r3 _ fun Γ2 σ2 q2 W4 wp => ⟨(wp vs hjs).trans wipe_wipe, ?_⟩
    refine q2 σ2 G3 H3 W4 _ fun t O2 G4 H4 kk W5 e5 => ?_
    have back : ∀ {O' : List Own} {G' H' : Hp}, Ws K (B.push G1) Γ2 O' σ2 G' H' → Ws K (B.push G1) Γ' O' (wipe σ vs) G' H' := fun W' => W'.env' (hw.env (hG (W'.bs G1 List.mem_cons_self)))
    cases t with
    | false =>
      obtain ⟨d', o2, p2⟩ := kk.2 rfl
      subst o2
      exact iteF ⟨hlt, ys, d', G4, p2, back W5⟩
    | true =>
      refine iteT ?_
      refine kk.1 rfl σ2 G4 H4 W5 _ fun y O3 u G5 H5 ⟨d', o3, hl, p3⟩ W6 e6 r6 => ?_
      subst o3
      obtain ⟨⟨ob, h1, ws, h2, h3⟩, _⟩ := W6.own _ List.mem_cons_self
      subst h2
      refine ⟨ws, h1, by rw [h3.length]; exact hl, hlt, ys ++ [y], d', G5, p3, ?_⟩
      exact back (W6.mutHd (r' := oLst rb) (x' := ys ++ [y]) ⟨ws ++ [u], rfl, h3.append ⟨r6, trivial⟩⟩)
  · obtain rfl : i = xs.length := by omega
    refine .inl ⟨gv.stop G2 H2 eb W2.sub, q D _ (.ref D) G2 H2 (hd D ys d (W1.notM hD) pd) (W2.unbase.env' (hG eb)) (e1.trans eb) rfl⟩
/-- the same, the list will not change -/
theorem d_frzE {Φ : List α → List Own → Prop} (h : DW F K B Γ O e rAdr fun q O1 => ∃ xs O2, O1 = ⟨q, oLst ra, xs⟩ :: O2 ∧ q ∉ B.M ∧ Φ xs O2) : DW F K B Γ O e (rLst ra) Φ := by
  intro σ G H W Q q
  refine h σ G H W Q fun p O1 v G1 H1 ⟨xs, O2, e1, hM, kk⟩ W1 e2 r => ?_
  subst e1
  obtain ⟨o, ⟨ws, h1, h2⟩, W2, e3⟩ := W1.frz hM
  subst h1
  exact q xs O2 v _ H1 kk W2 (e2.trans e3) ⟨p, ws, r, upd_same, h2.mono fun _ _ z => ra.mono e3 z⟩
end
/-! ### promises -/
/-- a def's promise: from x (with pre), its own objects own x, it gives y and leaves own objects O' (with post) -/
def spM {α β : Type} (K : Fg) (T : List Addr) (ra : RpF α) (pre : α → Prop) (own : α → List Own) (r : Rp β) (post : α → β → List Own → Prop) : Sp := fun vs H Q _ => ∃ G x, Ex G H ∧ (∀ P ∈ T, Tb H P ∧ G P = none) ∧ ra.rep K G vs x ∧ pre x ∧
  (∀ w ∈ own x, (∃ o, H w.a = some o ∧ w.r.rep K G o w.x) ∧ G w.a = none ∧ w.a ∉ T) ∧ ((own x).map (·.a)).Nodup ∧
  ∀ v y O' G' H', Stp T ((own x).map (·.a)) G H G' H' → (∀ w ∈ O', (∃ o, H' w.a = some o ∧ w.r.rep K G' o w.x) ∧ G' w.a = none ∧ w.a ∉ T ∧ (H w.a = none ∨ w.a ∈ (own x).map (·.a))) → (O'.map (·.a)).Nodup → r.rep K G' v y → post x y O' → Q v H'
section
variable {K : Fg} {B : Bs} {Γ : Gm} {O : List Own} {α β : Type} {ra : RpF α} {rb : Rp β} {pre : α → Prop} {own : α → List Own} {post : α → β → List Own → Prop} {T : List Addr}
theorem Stp.tsub {T T' M : List Addr} {G H G' H' : Hp} (a : Stp T M G H G' H') (h : ∀ P ∈ T, P ∈ T') (hm : ∀ P ∈ M, P ∉ T') : Stp T' M G H G' H' :=
  ⟨a.sub, a.g, fun c o q t n => a.h c o q (fun z => t (h c z)) n, a.th, a.fr, fun P hP q => by
    by_cases hT : P ∈ T
    · exact a.tab P hT q
    · obtain ⟨ps, h1, h2⟩ := q
      exact ⟨ps, a.h P _ h1 hT (fun z => hm P z hP), h2⟩⟩
/-- a promise is asked: own x and R are the own objects that stand; behind it O' and R -/
theorem sw_m {x : α} {Φ : β → List Own → Prop} (R : List Own) (hp : pre x) (hO : ∀ w ∈ own x ++ R, w ∈ O) (hn : (O.map (·.a)).Nodup → ((own x ++ R).map (·.a)).Nodup) (h : ∀ y O', post x y O' → Φ y (O' ++ R))
    (hT : ∀ P ∈ T, P ∈ B.T := by first | exact fun _ h => h | (intro _ h; cases h)) : SW K B Γ O (spM K T ra pre own rb post) [] ra x rb Φ := by
  intro σ G H vs W rv Q q
  have W' : Ws K B Γ (own x ++ R) σ G H := W.perm hO hn
  have nd' := W'.nd
  rw [List.map_append] at nd'
  refine ⟨G, x, W.sub, fun P hP => W.tab P (hT P hP), by rw [List.append_nil]; exact rv, hp, fun w hw => ?_, (List.nodup_append.mp nd').1, fun v y O' G' H' s hO' hn' r hpost => ?_⟩
  · obtain ⟨h1, h2, h3, _⟩ := W'.own w (List.mem_append_left _ hw)
    exact ⟨h1, h2, fun z => h3 (hT _ z)⟩
  · have hM : ∀ c ∈ (own x).map (·.a), (c ∈ B.M ∨ B.H0 c = none) ∧ c ∉ B.T := fun c hc => by
      obtain ⟨w, hw, e⟩ := List.mem_map.mp hc
      obtain ⟨_, _, h3, h4⟩ := W'.own w (List.mem_append_left _ hw)
      rw [← e]
      exact ⟨h4.symm, h3⟩
    have s2 := s.tsub hT fun P hP => (hM P hP).2
    refine q y (O' ++ R) v G' H' (h y O' hpost) ⟨W.st.trans s2 fun c hc => (hM c hc).1, fun P hP => ⟨s2.tab P hP (W.tab P hP).1, ?_⟩, fun g hg => (W.bs g hg).trans s.g, W.env.mono s.g, fun w hw => ?_, ?_, W.mh⟩ s.g r
    · cases e : G' P with
      | none => rfl
      | some o =>
        have z := s.fr P (W.tab P hP).2 (by rw [e]; simp)
        obtain ⟨⟨ps, h1, _⟩, _⟩ := W.tab P hP
        rw [h1] at z
        cases z
    · rcases List.mem_append.mp hw with z | z
      · obtain ⟨h1, h2, h3, h4⟩ := hO' w z
        refine ⟨h1, h2, fun hw' => ?_, ?_⟩
        · by_cases hT' : w.a ∈ T
          · exact h3 hT'
          · rcases h4 with h4 | h4
            · obtain ⟨⟨ps, g1, _⟩, _⟩ := W.tab _ hw'
              rw [g1] at h4
              cases h4
            · exact (hM _ h4).2 hw'
        · rcases h4 with h4 | h4
          · exact .inl (W.free h4)
          · exact (hM _ h4).1.symm
      · obtain ⟨⟨o, h1, h2⟩, h3, h4, h5⟩ := W'.own w (List.mem_append_right _ z)
        have nM : w.a ∉ (own x).map (·.a) := fun c => (List.nodup_append.mp nd').2.2 _ c _ (List.mem_map.mpr ⟨w, z, rfl⟩) rfl
        refine ⟨⟨o, s2.h _ _ h1 h4 nM, w.r.mono s.g h2⟩, ?_, h4, h5⟩
        cases e : G' w.a with
        | none => rfl
        | some u =>
          have z := s.fr _ h3 (by rw [e]; simp)
          rw [h1] at z
          cases z
    · rw [List.map_append]
      refine List.nodup_append.mpr ⟨hn', (List.nodup_append.mp nd').2.1, fun c hc d hd e => ?_⟩
      subst e
      obtain ⟨w, hw, ew⟩ := List.mem_map.mp hc
      obtain ⟨w2, hw2, ew2⟩ := List.mem_map.mp hd
      obtain ⟨_, _, _, h4⟩ := hO' w hw
      obtain ⟨⟨o, h1, _⟩, _⟩ := W'.own w2 (List.mem_append_right _ hw2)
      rw [ew2, ← ew] at h1
      rcases h4 with h4 | h4
      · rw [h1] at h4
        cases h4
      · rw [ew] at h4
        exact (List.nodup_append.mp nd').2.2 c h4 c hd rfl
/-- the slots of the arguments -/
class Args {α : Type} (f : RpF α) (g : outParam (α → Gm)) : Prop where
  env : ∀ {K : Fg} {G : Hp} {vs : List V} {x : α} {m : Nat}, f.rep K G vs x → EnvR K G (vs.map some ++ List.replicate m none) (g x ++ List.replicate m none)
theorem env_nones {K : Fg} {G : Hp} : ∀ m : Nat, EnvR K G (List.replicate m none) (List.replicate m none)
  | 0 => trivial
  | m + 1 => env_nones m
instance argsNil : Args fNil (fun _ => []) := ⟨fun {K G vs x m} h => by
  rw [show vs = [] from h]
  exact env_nones m⟩
instance argsOne {r : Rp α} : Args (fOne r) (fun x => [some ⟨r, x⟩]) := ⟨fun {K G vs x m} ⟨v, h, q⟩ => by
  subst h
  exact ⟨⟨v, rfl, q⟩, env_nones m⟩⟩
instance argsCons {r : Rp α} {f : RpF β} {g : β → Gm} [h : Args f g] : Args (fCons r f) (fun x => some ⟨r, x.1⟩ :: g x.2) := ⟨fun {K G vs x m} ⟨v, ws, e, q, z⟩ => by
  subst e
  exact ⟨⟨v, rfl, q⟩, h.env z⟩⟩
/-- the context of a def's body -/
abbrev Xf (P : Program) (w : World) (K : Fg) (mg : Str → Option Value) (base : Heap) (N : List Str) (qual : Str) (st : Stmt) (f : Addr) (cdv : Value) (A : Around) (outer : List Env) (s : Shared) (H : Hp) (E : XK) : Cx :=
  (cxOf CX0 P w K mg base N qual (defScope st) f cdv A outer s H E).nox
/-- THE RULE: a def keeps its promise -/
theorem fn_m {P : Program} {w : World} {mg : Str → Option Value} {base : Heap} {x qual : Str} {st : Stmt} {f : Addr} {fd : FuncData} {N ps : List Str} {k m : Nat} {g : α → Gm} [hl : Len ra m] [ha : Args ra g]
    (F : Fun K x qual st f fd) (S : FnScope N ps (defScope st)) (T : List Addr)
    (h : ∀ (cdv : Value) (A : Around) (outer : List Env) (s : Shared) (G H : Hp) (E : XK) (x : α) (Q : VK), Fam (Us (Xf P w K mg base N qual st f cdv A outer s H E)) P w K mg base k → pre x →
      (∀ {Γ : Gm} {O' : List Own} {y : β}, post x y O' → RT K ⟨T, (own x).map (·.a), G, H, []⟩ Γ O' rb y { nx := fun _ H' => Q .non H', rt := Q }) →
      DS (Xf P w K mg base N qual st f cdv A outer s H E) K ⟨T, (own x).map (·.a), G, H, []⟩ (g x ++ List.replicate (N.length - m) none) (own x) (defBody st) { nx := fun _ H' => Q .non H', rt := Q }) (hm : m = ps.length := by rfl) :
    FnOk P w K mg base CX0 (k + 1) f fd ps (spM K T ra pre own rb post) := by
  refine F.ok S (fun vs H Q E ⟨G, x, _, _, r, _⟩ => by rw [hl.len r]; exact hm) fun cdv A outer s H vs Q E hr ⟨G, x, sub, tab, r, hp, ho, hn, q⟩ => ?_
  have fam : Fam (Us (Xf P w K mg base N qual st f cdv A outer s H E)) P w K mg base k := ⟨fun _ => rfl, fun _ => rfl, fun _ => rfl, fun _ => rfl, fun _ => rfl, fun _ => hr, fun _ => rfl, fun _ => S.nd⟩
  have hx := h cdv A outer s G H E x Q fam hp (fun {Γ O' y} hpost v σ G' H' W rv => q v y O' G' H' W.st (fun w hw => let ⟨a, b, c, d⟩ := W.own w hw; ⟨a, b, c, d⟩) W.nd rv hpost)
  refine hx (L2.start N vs) G H ⟨Stp.refl sub, tab, fun _ z => absurd z (by simp), ?_, fun w hw => ?_, hn, fun c hc => ?_⟩
  · have e := ha.env (m := N.length - m) r
    unfold L2.start
    rw [hl.len r]
    exact e
  · obtain ⟨a, b, c⟩ := ho w hw
    exact ⟨a, b, c, .inr (List.mem_map.mpr ⟨w, hw, rfl⟩)⟩
  · obtain ⟨w, hw, e⟩ := List.mem_map.mp hc
    obtain ⟨⟨o, a, _⟩, _⟩ := ho w hw
    show H c ≠ none
    rw [← e, a]
    simp
/-- a promise that changes nothing -/
abbrev sp0 (K : Fg) (T : List Addr) (ra : RpF α) (pre : α → Prop) (r : Rp β) (post : α → β → Prop) : Sp := spM K T ra pre (fun _ => []) r fun x y O' => O' = [] ∧ post x y
theorem sw_0 {x : α} {post : α → β → Prop} {Φ : β → List Own → Prop} (hp : pre x) (h : ∀ y, post x y → Φ y O) (hT : ∀ P ∈ T, P ∈ B.T := by first | exact fun _ h => h | (intro _ h; cases h)) : SW K B Γ O (sp0 K T ra pre rb post) [] ra x rb Φ :=
  sw_m O hp (fun w hw => hw) (fun z => z) (fun y O' ⟨e, p⟩ => by subst e; exact h y p) hT
end
/-! ### own lists that are done -/
section
variable {X : Cx} {K : Fg} {B : Bs} {Γ Γ' : Gm} {O O' : List Own} {α β : Type} {ra : Rp α} {D : Ends} {rest : List Stmt}
theorem s_frz (i : Nat) {q : Addr} {xs : List α} {f : Option Slot → Gm} [hA : At Γ i rAdr q] [hg : SetG Γ i f] (hM : q ∉ B.M) (h : DS X K B (f (some ⟨rLst ra, xs⟩)) O rest D) : DS X K B Γ (⟨q, oLst ra, xs⟩ :: O) rest D := fun σ G H W => by
  obtain ⟨o, ⟨ws, h1, h2⟩, W2, e⟩ := W.frz hM
  subst h1
  obtain ⟨u, h3, h4⟩ := W2.env.get hA.get
  have W3 := W2.set (s := ⟨rLst ra, xs⟩) i (u := u) ⟨q, ws, h4, upd_same, h2.mono fun _ _ z => ra.mono e z⟩
  have e2 : σ.set i (some u) = σ := by
    refine List.ext_getElem? fun j => ?_
    by_cases hj : i = j
    · subst hj
      rw [List.getElem?_set_self (List.getElem?_eq_some_iff.mp h3).1, h3]
    · rw [List.getElem?_set_ne hj]
  rw [e2, ← hg.eq] at W3
  exact h σ _ H W3
end
end Sk
set_option Elab.async false
set_option linter.all false
set_option maxRecDepth 100000
set_option maxHeartbeats 4100000
/-! Sk5: dicts by written keys; what an own object hides. -/
namespace Sk
open PySem L2 Evl
/-! ### dicts whose keys are written texts -/
abbrev zipK (ns : List Str) (vs : List V) : List (Key × V) := (ns.map Sum.inr).zip vs
theorem zip_val {k : Str} : ∀ {ns : List Str} {vs : List V} {i : Nat}, ns.Nodup → ns[i]? = some k → valV (zipK ns vs) (Sum.inr k) = vs[i]?
  | [], _, _, _, e => by simp at e
  | n :: ns, [], i, _, _ => by
    show valV ([] : List (Key × V)) _ = _
    rw [valV_nil]
    simp
  | n :: ns, v :: vs, 0, h, e => by
    have e' : n = k := by simpa using e
    subst e'
    show valV ((Sum.inr n, v) :: zipK ns vs) _ = _
    rw [valV_pos rfl]
    rfl
  | n :: ns, v :: vs, i + 1, h, e => by
    have e' : ns[i]? = some k := by simpa using e
    have ne : ¬ (Sum.inr n : Key) = Sum.inr k := fun z => (List.nodup_cons.mp h).1 (by
      have z' : n = k := Sum.inr.inj z
      rw [z']
      exact List.mem_of_getElem? e')
    show valV ((Sum.inr n, v) :: zipK ns vs) _ = _
    rw [valV_neg ne, zip_val (List.nodup_cons.mp h).2 e']
    simp
theorem zip_mem {k : Str} {i : Nat} : ∀ {ns : List Str} {vs : List V}, ns[i]? = some k → i < vs.length → ∃ y ∈ zipK ns vs, y.1 = Sum.inr k := fun {ns vs} e h => by
  refine ⟨(Sum.inr k, vs[i]), ?_, rfl⟩
  refine List.mem_of_getElem? (i := i) ?_
  rw [List.getElem?_zip_eq_some]
  exact ⟨by rw [List.getElem?_map, e]; rfl, List.getElem?_eq_getElem h⟩
theorem zip_put {k : Str} {y : V} : ∀ {ns : List Str} {vs : List V} {i : Nat}, ns.Nodup → ns[i]? = some k → i < vs.length → putK (zipK ns vs) (Sum.inr k) y = zipK ns (vs.set i y) := by
  intro ns vs i h e hi
  have hany : ((zipK ns vs).any fun kv => decide (kv.1 = (Sum.inr k : Key))) = true := by
    obtain ⟨p, hp, e1⟩ := zip_mem (vs := vs) e hi
    exact List.any_eq_true.mpr ⟨p, hp, decide_eq_true e1⟩
  unfold putK
  rw [if_pos hany]
  clear hany
  induction ns generalizing vs i with
  | nil => simp at e
  | cons n ns ih =>
    cases vs with
    | nil => simp at hi
    | cons v vs =>
      cases i with
      | zero =>
        have e' : n = k := by simpa using e
        subst e'
        show (if (Sum.inr n : Key) = Sum.inr n then _ else _) :: List.map _ (zipK ns vs) = (Sum.inr n, y) :: zipK ns vs
        rw [if_pos rfl]
        refine congrArg _ ?_
        refine (List.map_congr_left fun p hp => ?_).trans (List.map_id _)
        have hk : p.1 ∈ ns.map Sum.inr := (List.of_mem_zip (show (p.1, p.2) ∈ _ from hp)).1
        obtain ⟨m, hm, em⟩ := List.mem_map.mp hk
        have ne : ¬ p.1 = (Sum.inr n : Key) := fun z => (List.nodup_cons.mp h).1 (by
          have z' : m = n := Sum.inr.inj (em.trans z)
          rw [← z']
          exact hm)
        rw [if_neg ne]
        rfl
      | succ i =>
        have e' : ns[i]? = some k := by simpa using e
        have ne : ¬ (Sum.inr n : Key) = Sum.inr k := fun z => (List.nodup_cons.mp h).1 (by
          have z' : n = k := Sum.inr.inj z
          rw [z']
          exact List.mem_of_getElem? e')
        show (if (Sum.inr n : Key) = Sum.inr k then _ else _) :: List.map _ (zipK ns vs) = (Sum.inr n, v) :: zipK ns (vs.set i y)
        rw [if_neg ne]
        exact congrArg _ (ih (List.nodup_cons.mp h).2 e' (by simpa using hi))
def rRec {α : Type} (ns : List Str) (f : RpF α) : Rp α := ⟨fun K G v x => ∃ a vs, v = .ref a ∧ G a = some (.dK (zipK ns vs)) ∧ f.rep K G vs x, fun e ⟨a, vs, h1, h2, h3⟩ => ⟨a, vs, h1, e _ _ h2, f.mono e h3⟩⟩
def oRec {α : Type} (ns : List Str) (f : RpF α) : Ow α := ⟨fun K G o x => ∃ vs, o = .dK (zipK ns vs) ∧ f.rep K G vs x, fun e ⟨vs, h1, h2⟩ => ⟨vs, h1, f.mono e h2⟩⟩
/-- the i-th of unlike things, set -/
class FSet {α : Type} (f : RpF α) (i : Nat) {β : outParam Type} (r : outParam (Rp β)) (g : outParam (α → β → α)) : Prop where
  set : ∀ {K : Fg} {G : Hp} {vs : List V} {x : α} {v : V} {y : β}, f.rep K G vs x → r.rep K G v y → f.rep K G (vs.set i v) (g x y)
section
variable {α β γ : Type}
instance fset1 {r : Rp α} : FSet (fOne r) 0 r (fun _ y => y) := ⟨fun ⟨v, h, k⟩ q => ⟨_, by rw [h]; rfl, q⟩⟩
instance fset0 {r : Rp α} {f : RpF β} : FSet (fCons r f) 0 r (fun x y => (y, x.2)) := ⟨fun ⟨v, ws, h, k, z⟩ q => ⟨_, ws, by rw [h]; rfl, q, z⟩⟩
instance fsetS {r : Rp α} {f : RpF β} {i : Nat} {r' : Rp γ} {g : β → γ → β} [h : FSet f i r' g] : FSet (fCons r f) (i + 1) r' (fun x y => (x.1, g x.2 y)) := ⟨fun ⟨v, ws, e, k, z⟩ q => ⟨v, _, by rw [e]; rfl, k, h.set z q⟩⟩
variable {ι : Type} {F : ι → Cx} {K : Fg} {B : Bs} {Γ : Gm} {O : List Own} {ra : Rp α} {rb : Rp β} {e o : Expr} {p pos pos' pos2 : Pos} {j : Nat} {ns : List Str} {fr : RpF α}
variable {P : Program} {w : World} {mg : Str → Option Value} {base : Heap} {k : Nat}
/-- d['key'], an own dict, a dict -/
theorem d_recO [fam : Fam F P w K mg base k] {key : Str} (i : Nat) {r : Rp β} {g : α → β} [hf : FAt fr i r g] {Φ : β → List Own → Prop} (hk : ns[i]? = some key) (hn : ns.Nodup)
    (h : DW F K B Γ O o rAdr fun q O1 => ∃ x f, OwnAt O1 q (oRec ns fr) x f ∧ Φ (g x) O1) : DW F K B Γ O (.Subscript o (.Constant (.str key) j pos') pos) r Φ := by
  intro σ G H W Q q
  refine ⟨tDGet (WE F o) (tC (.str key)), fun i => pe_dget (by have := (fam.rm i).units; omega) (WE.pe i) pe_str (fun _ _ => rfl), ?_⟩
  refine h σ G H W _ fun c O1 v G1 H1 ⟨x, f, hO, kk⟩ W1 e1 r1 => ?_
  obtain ⟨ob, h1, vs, h2, h3⟩ := W1.ownO hO
  subst h2
  obtain ⟨u, h4, h5⟩ := hf.get h3
  refine ⟨c, u, r1, ?_, q _ O1 u G1 H1 kk W1 e1 h5⟩
  have e2 := DGet.k (k := Sum.inr key) h1
  rw [zip_val hn hk, h4] at e2
  exact e2
theorem d_rec [fam : Fam F P w K mg base k] {key : Str} (i : Nat) {r : Rp β} {g : α → β} [hf : FAt fr i r g] {Φ : β → List Own → Prop} (hk : ns[i]? = some key) (hn : ns.Nodup)
    (h : DW F K B Γ O o (rRec ns fr) fun x O1 => Φ (g x) O1) : DW F K B Γ O (.Subscript o (.Constant (.str key) j pos') pos) r Φ := by
  intro σ G H W Q q
  refine ⟨tDGet (WE F o) (tC (.str key)), fun i => pe_dget (by have := (fam.rm i).units; omega) (WE.pe i) pe_str (fun _ _ => rfl), ?_⟩
  refine h σ G H W _ fun x O1 v G1 H1 kk W1 e1 ⟨c, vs, r1, h1, h3⟩ => ?_
  obtain ⟨u, h4, h5⟩ := hf.get h3
  refine ⟨c, u, r1, ?_, q _ O1 u G1 H1 kk W1 e1 h5⟩
  have e2 := DGet.k (k := Sum.inr key) (W1.sub _ _ h1)
  rw [zip_val hn hk, h4] at e2
  exact e2
/-- the same, the dict a name's -/
theorem d_recV [fam : Fam F P w K mg base k] {key n : Str} (iv i : Nat) {q : Addr} {x : α} {f : Own → List Own} {r : Rp β} {g : α → β} [hA : At Γ iv rAdr q] [hO : OwnAt O q (oRec ns fr) x f] [hf : FAt fr i r g] {Φ : β → List Own → Prop} (hk : ns[i]? = some key) (hn : ns.Nodup) (kk : Φ (g x) O)
    (hN : ∀ j, (F j).N[iv]? = some n := by intro _; rfl) (hv : ∀ j, Vis (F j).env.scope n := by intro _; first | exact Or.inl rfl | exact Or.inr (Or.inl rfl) | exact Or.inr (Or.inr rfl)) (hd : (n == ("__debug__" : Str)) = false := by decide)
    (hcd : (n == ("__classdict__" : Str)) = false := by decide) : DW F K B Γ O (.Subscript (.Name n pos2) (.Constant (.str key) j pos') pos) r Φ :=
  d_recO i hk hn (d_var iv ⟨x, f, hO, kk⟩ hN hv hd hcd)
theorem d_recP [fam : Fam F P w K mg base k] {key n : Str} (iv i : Nat) {x : α} {r : Rp β} {g : α → β} [hA : At Γ iv (rRec ns fr) x] [hf : FAt fr i r g] {Φ : β → List Own → Prop} (hk : ns[i]? = some key) (hn : ns.Nodup) (kk : Φ (g x) O)
    (hN : ∀ j, (F j).N[iv]? = some n := by intro _; rfl) (hv : ∀ j, Vis (F j).env.scope n := by intro _; first | exact Or.inl rfl | exact Or.inr (Or.inl rfl) | exact Or.inr (Or.inr rfl)) (hd : (n == ("__debug__" : Str)) = false := by decide)
    (hcd : (n == ("__classdict__" : Str)) = false := by decide) : DW F K B Γ O (.Subscript (.Name n pos2) (.Constant (.str key) j pos') pos) r Φ :=
  d_rec i hk hn (d_var iv kk hN hv hd hcd)
/-- d['key'] = e, an own dict that has the key -/
theorem s_recPut {X : Cx} {rest : List Stmt} {D : Ends} [fam : Fam (Us X) P w K mg base k] {key : Str} (i : Nat) {m : Nat} {r : Rp β} {g : α → β → α} [hf : FSet fr i r g] [hl : Len fr m] (hk : ns[i]? = some key) (hn : ns.Nodup)
    (h : DW (Us X) K B Γ O e r fun y O1 => DW (Us X) K B Γ O1 o rAdr fun q O2 => ∃ x f, OwnAt O2 q (oRec ns fr) x f ∧ DS X K B Γ (f ⟨q, oRec ns fr, g x y⟩) rest D)
    (hi : i < m := by decide) (hm : m < 1000 := by decide) (hs : swapsWith e (some (.Subscript o (.Constant (.str key) j pos') pos2)) pos.line X.env = pure false := by rfl) : DS X K B Γ O (.Assign [.Subscript o (.Constant (.str key) j pos') pos2] e pos :: rest) D := by
  intro σ G H W
  refine WSs.cons (ps_dput (td := WE (Us X) o) (ty := tC (.str key)) (tv := WE (Us X) e) (hu_of (fam.rm ())) (WE.pe (F := Us X) ()) pe_str (WE.pe (F := Us X) ()) hs) ?_
  refine h σ G H W _ fun y O1 u G1 H1 k1 W1 e1 r1 => ?_
  refine k1 σ G1 H1 W1 _ fun c O2 v G2 H2 ⟨x, f, hO, kk⟩ W2 e2 r2 => ?_
  obtain ⟨ob, h1, vs, h2, h3⟩ := W2.ownO hO
  subst h2
  have hlen := hl.len h3
  have hz : (zipK ns vs).length < sizeLine := by
    have e3 : (zipK ns vs).length ≤ vs.length := by
      unfold zipK
      rw [List.length_zip]
      exact Nat.min_le_right _ _
    exact Nat.lt_of_le_of_lt e3 (by rw [hlen]; exact small1000 (by omega))
  refine ⟨c, _, r2, DPut.k (k := Sum.inr key) h1 hz, ?_⟩
  refine kk _ _ _ (W2.mutO (h := hO) (r' := oRec ns fr) (x' := g x y) ⟨vs.set i u, ?_, hf.set h3 (r.mono e2 r1)⟩)
  rw [zip_put hn hk (by omega)]
/-- the same, the dict a name's, e changes none of the own objects -/
theorem s_recPutV {X : Cx} {rest : List Stmt} {D : Ends} [fam : Fam (Us X) P w K mg base k] {key n : Str} (iv i : Nat) {m : Nat} {q : Addr} {x : α} {f : Own → List Own} {r : Rp β} {g : α → β → α} [hA : At Γ iv rAdr q] [hO : OwnAt O q (oRec ns fr) x f] [hf : FSet fr i r g] [hl : Len fr m] (hk : ns[i]? = some key) (hn : ns.Nodup)
    (h : DW (Us X) K B Γ O e r fun y O1 => O1 = O ∧ DS X K B Γ (f ⟨q, oRec ns fr, g x y⟩) rest D)
    (hN : X.N[iv]? = some n := by rfl) (hv : Vis X.env.scope n := by first | exact Or.inl rfl | exact Or.inr (Or.inl rfl) | exact Or.inr (Or.inr rfl)) (hd : (n == ("__debug__" : Str)) = false := by decide) (hcd : (n == ("__classdict__" : Str)) = false := by decide)
    (hi : i < m := by decide) (hm : m < 1000 := by decide) (hs : swapsWith e (some (.Subscript (.Name n p) (.Constant (.str key) j pos') pos2)) pos.line X.env = pure false := by rfl) : DS X K B Γ O (.Assign [.Subscript (.Name n p) (.Constant (.str key) j pos') pos2] e pos :: rest) D := by
  refine s_recPut (fr := fr) (m := m) (g := g) i hk hn (d_mono h fun y O1 ⟨e1, kk⟩ => ?_) hi hm hs
  subst e1
  exact d_var iv ⟨x, f, hO, kk⟩ (fun _ => hN) (fun _ => hv) hd hcd
end
/-! ### hidden states -/
def oEx {α : Type} (r : Ow α) (good : α → Prop) : Ow Unit := ⟨fun K G o _ => ∃ x, good x ∧ r.rep K G o x, fun e ⟨x, h1, h2⟩ => ⟨x, h1, r.mono e h2⟩⟩
section
variable {X : Cx} {K : Fg} {B : Bs} {Γ Γ' : Gm} {O O' : List Own} {α β γ : Type} {ra : Rp α} {D : Ends} {rest : List Stmt} {r : Ow β} {good : β → Prop}
theorem s_open {q : Addr} (h : ∀ x, good x → DS X K B Γ (⟨q, r, x⟩ :: O) rest D) : DS X K B Γ (⟨q, oEx r good, ()⟩ :: O) rest D := fun σ G H W => by
  obtain ⟨⟨o, h1, x, h2, h3⟩, h4, h5, h6⟩ := W.own _ List.mem_cons_self
  refine h x h2 σ G H ⟨W.st, W.tab, W.bs, W.env, fun v hv => ?_, W.nd, W.mh⟩
  rcases List.mem_cons.mp hv with z | z
  · subst z
    exact ⟨⟨o, h1, h3⟩, h4, h5, h6⟩
  · exact W.own v (List.mem_cons_of_mem _ z)
theorem Ws.close {q : Addr} {x : β} {σ : St} {G H : Hp} (hx : good x) (W : Ws K B Γ (⟨q, r, x⟩ :: O) σ G H) : Ws K B Γ (⟨q, oEx r good, ()⟩ :: O) σ G H :=
  ⟨W.st, W.tab, W.bs, W.env, fun v hv => by
    rcases List.mem_cons.mp hv with z | z
    · subst z
      obtain ⟨⟨o, h1, h3⟩, h4, h5, h6⟩ := W.own _ List.mem_cons_self
      exact ⟨⟨o, h1, x, hx, h3⟩, h4, h5, h6⟩
    · exact W.own v (List.mem_cons_of_mem _ z), W.nd, W.mh⟩
theorem rt_close {q : Addr} {x : β} {y : α} (hx : good x) (h : RT K B Γ (⟨q, oEx r good, ()⟩ :: O) ra y D) : RT K B Γ (⟨q, r, x⟩ :: O) ra y D := fun v σ G H W => h v σ G H (W.close hx)
end
/-! ### built-ins by name -/
theorem bt_abs : bootBuiltins "abs" = some (.builtin "abs") := by decide +kernel
theorem bt_len : bootBuiltins "len" = some (.builtin "len") := by decide +kernel
theorem bt_max : bootBuiltins "max" = some (.builtin "max") := by decide +kernel
theorem bt_min : bootBuiltins "min" = some (.builtin "min") := by decide +kernel
theorem bt_isi : bootBuiltins "isinstance" = some (.builtin "isinstance") := by decide +kernel
theorem bt_int : bootBuiltins "int" = some (.type "int") := by decide +kernel
theorem bt_bool : bootBuiltins "bool" = some (.type "bool") := by decide +kernel
theorem bt_str : bootBuiltins "str" = some (.type "str") := by decide +kernel
theorem bt_list : bootBuiltins "list" = some (.type "list") := by decide +kernel
theorem bt_tuple : bootBuiltins "tuple" = some (.type "tuple") := by decide +kernel
end Sk
set_option Elab.async false
set_option linter.all false
set_option maxRecDepth 100000
set_option maxHeartbeats 4100000
/-! Sk6: pure tests, pure comprehensions, promises by a function. -/
namespace Sk
open PySem L2 Evl
section
variable {ι : Type} {F : ι → Cx} {K : Fg} {B : Bs} {Γ : Gm} {O : List Own} {α β γ : Type} {ra : Rp α} {rb : Rp β} {rc : Rp γ} {a b c e elt tg iter : Expr} {es ifs : List Expr} {pos p : Pos} {n : Str} {scope : Scope}
variable {P : Program} {w : World} {mg : Str → Option Value} {base : Heap} {k : Nat}
/-! tests whose answer is known -/
theorem dt_notP {x : Bool} (h : DT F K B Γ O a fun t O' => t = x ∧ O' = O) : DT F K B Γ O (.UnaryOp .Not a pos) fun t O' => t = (!x) ∧ O' = O :=
  dt_not (dt_mono h fun t O' ⟨e1, e2⟩ => ⟨by rw [e1], e2⟩)
theorem dp_andP {x y : Bool} (h : DT F K B Γ O a fun t O' => t = x ∧ O' = O) (h2 : x = true → DP F K B Γ O (.BoolOp .And (b :: es) pos) fun t O' => t = y ∧ O' = O) : DP F K B Γ O (.BoolOp .And (a :: b :: es) pos) fun t O' => t = (x && y) ∧ O' = O := by
  refine dp_and (dt_mono h fun t O' ⟨e1, e2⟩ => ?_)
  subst e1 e2
  cases t with
  | true => exact ⟨fun _ => h2 rfl, fun z => Bool.noConfusion z⟩
  | false => exact ⟨fun z => Bool.noConfusion z, fun _ => ⟨rfl, rfl⟩⟩
theorem dp_orP {x y : Bool} (h : DT F K B Γ O a fun t O' => t = x ∧ O' = O) (h2 : x = false → DP F K B Γ O (.BoolOp .Or (b :: es) pos) fun t O' => t = y ∧ O' = O) : DP F K B Γ O (.BoolOp .Or (a :: b :: es) pos) fun t O' => t = (x || y) ∧ O' = O := by
  refine dp_or (dt_mono h fun t O' ⟨e1, e2⟩ => ?_)
  subst e1 e2
  cases t with
  | true => exact ⟨fun z => Bool.noConfusion z, fun _ => ⟨rfl, rfl⟩⟩
  | false => exact ⟨fun _ => h2 rfl, fun z => Bool.noConfusion z⟩
theorem d_notP {x : Bool} (h : DW F K B Γ O a rBool fun t O' => t = x ∧ O' = O) : DW F K B Γ O (.UnaryOp .Not a pos) rBool fun t O' => t = (!x) ∧ O' = O :=
  d_not (d_mono h fun t O' ⟨e1, e2⟩ => ⟨by rw [e1], e2⟩)
theorem d_andP {x y : Bool} (h : DW F K B Γ O a rBool fun t O' => t = x ∧ O' = O) (h2 : x = true → DW F K B Γ O (.BoolOp .And (b :: es) pos) rBool fun t O' => t = y ∧ O' = O) : DW F K B Γ O (.BoolOp .And (a :: b :: es) pos) rBool fun t O' => t = (x && y) ∧ O' = O := by
  refine d_and (d_mono h fun t O' ⟨e1, e2⟩ => ?_)
  subst e1 e2
  cases t with
  | true => exact ⟨fun _ => h2 rfl, fun z => Bool.noConfusion z⟩
  | false => exact ⟨fun z => Bool.noConfusion z, fun _ => ⟨rfl, rfl⟩⟩
theorem d_orP {x y : Bool} (h : DW F K B Γ O a rBool fun t O' => t = x ∧ O' = O) (h2 : x = false → DW F K B Γ O (.BoolOp .Or (b :: es) pos) rBool fun t O' => t = y ∧ O' = O) : DW F K B Γ O (.BoolOp .Or (a :: b :: es) pos) rBool fun t O' => t = (x || y) ∧ O' = O := by
  refine d_or (d_mono h fun t O' ⟨e1, e2⟩ => ?_)
  subst e1 e2
  cases t with
  | true => exact ⟨fun z => Bool.noConfusion z, fun _ => ⟨rfl, rfl⟩⟩
  | false => exact ⟨fun _ => h2 rfl, fun z => Bool.noConfusion z⟩
theorem dt_chainP {op op' : CmpOp} {x y : Bool} (h : DW F K B Γ O a ra fun u O1 => DW F K B Γ O1 b rb fun v O2 => OW F K B Γ O2 (compareOp op) ra rb u v rBool fun z O3 =>
      z = x ∧ O3 = O ∧ (x = true → DW F K B Γ O c rc fun q O4 => OW F K B Γ O4 (compareOp op') rb rc v q rBool fun t O' => t = y ∧ O' = O))
    (hm : lastMarks [op, op'] [b, c] = false := by with_unfolding_all rfl) : DT F K B Γ O (.Compare a [op, op'] [b, c] pos) fun t O' => t = (x && y) ∧ O' = O := by
  refine dt_chain (rb := rb) (rc := rc) (d_mono h fun u O1 h1 => d_mono h1 fun v O2 h2 => fun σ G H vv ww W r1 r2 Q q => h2 σ G H vv ww W r1 r2 Q fun z O3 u' G' H' ⟨e1, e2, e3⟩ W' ex r => q z O3 u' G' H' ?_ W' ex r) hm
  subst e1 e2
  cases z with
  | true => exact ⟨fun _ => e3 rfl, fun z => Bool.noConfusion z⟩
  | false => exact ⟨fun z => Bool.noConfusion z, fun _ => ⟨rfl, rfl⟩⟩
/-- a known value goes on -/
theorem d_then {x : α} {Φ : α → List Own → Prop} (h : DW F K B Γ O e ra fun t O' => t = x ∧ O' = O) (q : Φ x O) : DW F K B Γ O e ra Φ := d_mono h fun t O' ⟨e1, e2⟩ => by
  subst e1 e2
  exact q
theorem dt_then {x : Bool} {Φ : Bool → List Own → Prop} (h : DT F K B Γ O e fun t O' => t = x ∧ O' = O) (q : Φ x O) : DT F K B Γ O e Φ := dt_mono h fun t O' ⟨e1, e2⟩ => by
  subst e1 e2
  exact q
theorem d_iteP {x : Bool} {Φ : α → List Own → Prop} (h : DT F K B Γ O c fun t O' => t = x ∧ O' = O) (h1 : x = true → DW F K B Γ O a ra Φ) (h2 : x = false → DW F K B Γ O b ra Φ) : DW F K B Γ O (.IfExp c a b pos) ra Φ :=
  d_ite (dt_then h ⟨h1, h2⟩)
/-! pure comprehensions -/
theorem take_snoc {α : Type} {l : List α} {i : Nat} {x : α} (h : l[i]? = some x) : l.take (i + 1) = l.take i ++ [x] := by
  rw [List.take_add_one, h]
  rfl
theorem d_lcF [fam : Fam F P w K mg base k] (own : List (Str × Nat)) (vs : List Nat) (ok : ∀ i, BlkOk (F i).N (F i).env.scope scope own) {Γ' : Gm} [hw : WipeG Γ vs Γ'] {js : List Nat} {f : α → β} {g : α → Bool} {Φ : List β → List Own → Prop}
    (h : DI F K B Γ O tg iter ra fun xs O1 => O1 = O ∧ xs.length ≤ sizeLine ∧
      (∀ gg D ys x, x ∈ xs → DG (blkF F scope) K (B.push gg) Γ' (⟨D, oLst rb, ys⟩ :: O) tg ra x js fun Γ2 => DTs (blkF F scope) K (B.push gg) Γ2 (⟨D, oLst rb, ys⟩ :: O) ifs fun t O2 =>
        t = g x ∧ O2 = ⟨D, oLst rb, ys⟩ :: O ∧ (g x = true → DW (blkF F scope) K (B.push gg) Γ2 (⟨D, oLst rb, ys⟩ :: O) elt rb fun y O3 => y = f x ∧ O3 = ⟨D, oLst rb, ys⟩ :: O)) ∧
      Φ ((xs.filter g).map f) O)
    (hv : own.map (·.2) = vs := by rfl) (hjs : ∀ j ∈ js, j ∈ vs := by decide) (hs : ∀ i x, foldedSetIterable iter (F i).env x = pure x := by intro _ _; rfl) :
    DW F K B Γ O (.ListComp elt [⟨tg, iter, ifs, 0⟩] scope pos) (rLst rb) Φ := by
  refine d_frzE (d_lcO (ra := ra) (rb := rb) own vs ok ?_ hv hjs hs)
  intro σ G H W R q
  refine h σ G H W R fun xs J O1 G1 H1 ⟨e1, hl, ht, hd⟩ gv W1 ee => q xs J O1 G1 H1 ⟨Unit, fun i ys _ => i ≤ xs.length ∧ ys = ((xs.take i).filter g).map f, fun _ => O, ⟨(), ⟨Nat.zero_le _, rfl⟩, e1⟩, fun gg D i x ys d hx ⟨hi, hy⟩ => ?_, fun D ys d hM ⟨_, hy⟩ => ?_⟩ gv W1 ee
  · have hlt : i < xs.length := (List.getElem?_eq_some_iff.mp hx).1
    have hmem := List.mem_of_getElem? hx
    have hlen : ys.length ≤ i := by
      rw [hy, List.length_map]
      refine Nat.le_trans (List.length_filter_le _ _) ?_
      rw [List.length_take]
      exact Nat.min_le_left _ _
    intro σ2 G2 H2 v W2 r2 Q2 q2
    refine ht gg D ys x hmem σ2 G2 H2 v W2 r2 Q2 fun Γ2 σ' p W' wp => q2 Γ2 σ' (fun σ3 G3 H3 W3 Q3 q3 => p σ3 G3 H3 W3 Q3 fun t O2 G4 H4 ⟨p1, p2, p3⟩ W4 e4 => q3 t O2 G4 H4 ?_ W4 e4) W' wp
    subst p1 p2
    refine ⟨fun ht => d_mono (p3 ht) fun y O3 ⟨z1, z2⟩ => ⟨(), z2, by omega, hlt, ?_⟩, fun ht => ⟨(), rfl, hlt, ?_⟩⟩
    · rw [take_snoc hx, List.filter_append, List.map_append, ← hy, z1]
      congr 1
      simp [ht]
    · rw [take_snoc hx, List.filter_append, List.map_append, ← hy]
      simp [ht]
  · rw [List.take_length] at hy
    subst hy
    exact ⟨_, _, rfl, hM, hd⟩
/-- without a test -/
theorem d_lcP [fam : Fam F P w K mg base k] (own : List (Str × Nat)) (vs : List Nat) (ok : ∀ i, BlkOk (F i).N (F i).env.scope scope own) {Γ' : Gm} [hw : WipeG Γ vs Γ'] {js : List Nat} {f : α → β} {Φ : List β → List Own → Prop}
    (h : DI F K B Γ O tg iter ra fun xs O1 => O1 = O ∧ xs.length ≤ sizeLine ∧
      (∀ gg D ys x, x ∈ xs → DG (blkF F scope) K (B.push gg) Γ' (⟨D, oLst rb, ys⟩ :: O) tg ra x js fun Γ2 =>
        DW (blkF F scope) K (B.push gg) Γ2 (⟨D, oLst rb, ys⟩ :: O) elt rb fun y O3 => y = f x ∧ O3 = ⟨D, oLst rb, ys⟩ :: O) ∧ Φ (xs.map f) O)
    (hv : own.map (·.2) = vs := by rfl) (hjs : ∀ j ∈ js, j ∈ vs := by decide) (hs : ∀ i x, foldedSetIterable iter (F i).env x = pure x := by intro _ _; rfl) :
    DW F K B Γ O (.ListComp elt [⟨tg, iter, [], 0⟩] scope pos) (rLst rb) Φ := by
  refine d_lcF (ra := ra) (f := f) (g := fun _ => true) own vs ok ?_ hv hjs hs
  intro σ G H W R q
  refine h σ G H W R fun xs J O1 G1 H1 ⟨e1, hl, ht, hd⟩ gv W1 ee => q xs J O1 G1 H1 ⟨e1, hl, fun gg D ys x hx σ2 G2 H2 v W2 r2 Q2 q2 => ht gg D ys x hx σ2 G2 H2 v W2 r2 Q2 fun Γ2 σ' p W' wp => q2 Γ2 σ' (dts_nil ⟨rfl, rfl, fun _ => p⟩) W' wp, ?_⟩ gv W1 ee
  have e : xs.filter (fun _ => true) = xs := List.filter_eq_self.mpr fun _ _ => rfl
  rw [e]
  exact hd
end
/-! ### promises by a function; promises that keep their own object -/
section
variable {K : Fg} {B : Bs} {Γ : Gm} {O : List Own} {α β γ : Type} {ra : RpF α} {rb : Rp β} {pre : α → Prop} {T : List Addr}
abbrev spF (K : Fg) (T : List Addr) (ra : RpF α) (pre : α → Prop) (r : Rp β) (f : α → β) : Sp := sp0 K T ra pre r fun x y => y = f x
theorem sw_f {x : α} {f : α → β} {Φ : β → List Own → Prop} (hp : pre x) (h : Φ (f x) O) (hT : ∀ P ∈ T, P ∈ B.T := by first | exact fun _ h => h | (intro _ h; cases h)) : SW K B Γ O (spF K T ra pre rb f) [] ra x rb Φ :=
  sw_0 hp (fun y e => by subst e; exact h) hT
theorem ndm {α : Type} {a : α} {l r : List α} : (l ++ a :: r).Nodup ↔ ([a] ++ (l ++ r)).Nodup := List.perm_middle.nodup_iff
/-- one own object, kept as it is told -/
abbrev sp1 (K : Fg) (T : List Addr) (ra : RpF α) (pre : α → Prop) (own : α → Own) (r : Rp β) (post : α → β → Prop) : Sp := spM K T ra pre (fun x => [own x]) r fun x y O' => O' = [own x] ∧ post x y
theorem sw_1 {x : α} {q : Addr} {δ : Type} {r : Ow δ} {d : δ} {f : Own → List Own} {own : α → Own} {post : α → β → Prop} {Φ : β → List Own → Prop} [ho : OwnAt O q r d f] (hp : pre x) (h : ∀ y, post x y → Φ y O) (e : own x = ⟨q, r, d⟩ := by rfl)
    (hT : ∀ P ∈ T, P ∈ B.T := by first | exact fun _ h => h | (intro _ h; cases h)) : SW K B Γ O (sp1 K T ra pre own rb post) [] ra x rb Φ := by
  obtain ⟨j, h1, _⟩ := ho.at_
  have hl : j < O.length := (List.getElem?_eq_some_iff.mp h1).1
  have hg : O[j] = own x := by
    rw [e]
    exact (List.getElem?_eq_some_iff.mp h1).2
  intro σ G H vs W rv Q q'
  have split : O = O.take j ++ own x :: O.drop (j + 1) := by
    rw [← hg]
    exact (List.take_append_drop j O).symm.trans (by rw [List.drop_eq_getElem_cons hl])
  have perm : ∀ v, v ∈ [own x] ++ (O.take j ++ O.drop (j + 1)) ↔ v ∈ O := fun v => by
    have e2 : v ∈ O ↔ v ∈ O.take j ++ own x :: O.drop (j + 1) := by rw [← split]
    rw [e2]
    simp only [List.mem_append, List.mem_cons, List.not_mem_nil, or_false]
    constructor
    · rintro (z | z | z)
      · exact .inr (.inl z)
      · exact .inl z
      · exact .inr (.inr z)
    · rintro (z | z | z)
      · exact .inr (.inl z)
      · exact .inl z
      · exact .inr (.inr z)
  have nd1 : (O.map (·.a)).Nodup → (([own x] ++ (O.take j ++ O.drop (j + 1))).map (·.a)).Nodup := fun z => by
    have e2 : O.map (·.a) = (O.take j).map (·.a) ++ (own x).a :: (O.drop (j + 1)).map (·.a) := by
      have e3 := congrArg (List.map (·.a)) split
      rw [List.map_append, List.map_cons] at e3
      exact e3
    rw [e2] at z
    rw [List.map_append, List.map_append]
    exact ndm.mp z
  have nd2 : (([own x] ++ (O.take j ++ O.drop (j + 1))).map (·.a)).Nodup → (O.map (·.a)).Nodup := fun z => by
    have e2 : O.map (·.a) = (O.take j).map (·.a) ++ (own x).a :: (O.drop (j + 1)).map (·.a) := by
      have e3 := congrArg (List.map (·.a)) split
      rw [List.map_append, List.map_cons] at e3
      exact e3
    rw [e2]
    rw [List.map_append, List.map_append] at z
    exact ndm.mpr z
  exact sw_m (Φ := fun y O' => Φ y O ∧ O' = [own x] ++ (O.take j ++ O.drop (j + 1))) (O.take j ++ O.drop (j + 1)) hp (fun v hv => (perm v).mp hv) nd1 (fun y O' ⟨e2, p⟩ => ⟨h y p, by rw [e2]⟩) hT σ G H vs W rv Q fun z O' u G' H' ⟨k1, k2⟩ W' e' r' => q' z O u G' H' k1 (by
    subst k2
    exact W'.perm (fun v hv => (perm v).mpr hv) nd2) e' r'
end
/-! ### statements -/
section
variable {X : Cx} {K : Fg} {B : Bs} {Γ Γ' : Gm} {O O' : List Own} {α β : Type} {ra : Rp α} {D D0 : Ends} {e c : Expr} {rest sa sb : List Stmt} {n : Str} {pos p apos : Pos}
variable {P : Program} {w : World} {mg : Str → Option Value} {base : Heap} {k : Nat}
theorem s_ifP {x : Bool} (h : DT (Us X) K B Γ O c fun t O' => t = x ∧ O' = O) (h1 : x = true → DS X K B Γ O sa { D with nx := WSs X rest D }) (h2 : x = false → DS X K B Γ O sb { D with nx := WSs X rest D }) : DS X K B Γ O (.If c sa sb pos :: rest) D :=
  s_if (dt_then h ⟨h1, h2⟩)
/-- wanted less -/
structure EndsLe (D0 D : Ends) : Prop where
  nx : ∀ σ H, D0.nx σ H → D.nx σ H
  rt : ∀ v H, D0.rt v H → D.rt v H
  bk : ∀ σ H, D0.bk σ H → D.bk σ H
  ct : ∀ σ H, D0.ct σ H → D.ct σ H
theorem WSs.mono {st : List Stmt} {σ : St} {H : Hp} (le : EndsLe D0 D) (h : WSs X st D0 σ H) : WSs X st D σ H := by
  obtain ⟨t, p, q⟩ := h
  refine ⟨fun D σ H => ∃ D0, t D0 σ H ∧ EndsLe D0 D, ⟨fun pins s σ H D I ⟨D0, q, le⟩ => thn (p.run pins s σ H D0 I q) fun f s' sp => ?_⟩, D0, q, le⟩
  cases f with
  | next =>
    obtain ⟨σ', H', I', z⟩ := sp
    exact ⟨σ', H', I', le.nx _ _ z⟩
  | brk =>
    obtain ⟨σ', H', I', z⟩ := sp
    exact ⟨σ', H', I', le.bk _ _ z⟩
  | cont =>
    obtain ⟨σ', H', I', z⟩ := sp
    exact ⟨σ', H', I', le.ct _ _ z⟩
  | ret u =>
    obtain ⟨v, σ', H', I', r, z⟩ := sp
    exact ⟨v, σ', H', I', r, le.rt _ _ z⟩
/-- the ways behind an if meet: d with Pv -/
theorem s_ifJ {x : Bool} {δ : Type} (Pv : δ → Prop) (Γf : δ → Gm) (Of : δ → List Own) (h : DT (Us X) K B Γ O c fun t O' => t = x ∧ O' = O) (h1 : x = true → DS X K B Γ O sa { D with nx := LpJ K B Pv Γf Of }) (h2 : x = false → DS X K B Γ O sb { D with nx := LpJ K B Pv Γf Of })
    (h3 : ∀ d, Pv d → DS X K B (Γf d) (Of d) rest D) : DS X K B Γ O (.If c sa sb pos :: rest) D := by
  intro σ G H W
  refine WSs.cons (ps_if (tc := WT (Us X) c) (WT.pt (F := Us X) ()) WSs.pss WSs.pss) ?_
  have key : ∀ {σ' : St} {H' : Hp}, LpJ K B Pv Γf Of σ' H' → WSs X rest D σ' H' := fun {σ' H'} ⟨d, G', pd, W'⟩ => h3 d pd σ' G' H' W'
  refine h σ G H W _ fun b O' G' H' ⟨e1, e2⟩ W' _ => ?_
  subst e1 e2
  cases b with
  | true => exact WSs.mono (D0 := { D with nx := LpJ K B Pv Γf Of }) ⟨fun _ _ z => key z, fun _ _ z => z, fun _ _ z => z, fun _ _ z => z⟩ (h1 rfl σ G' H' W')
  | false => exact WSs.mono (D0 := { D with nx := LpJ K B Pv Γf Of }) ⟨fun _ _ z => key z, fun _ _ z => z, fun _ _ z => z, fun _ _ z => z⟩ (h2 rfl σ G' H' W')
theorem s_ifJE {δ : Type} (Pv : δ → Prop) (Γf : δ → Gm) (Of : δ → List Own) (h : DT (Us X) K B Γ O c fun t O' => (t = true → DS X K B Γ O' sa { D with nx := LpJ K B Pv Γf Of }) ∧ (t = false → DS X K B Γ O' sb { D with nx := LpJ K B Pv Γf Of }))
    (h3 : ∀ d, Pv d → DS X K B (Γf d) (Of d) rest D) : DS X K B Γ O (.If c sa sb pos :: rest) D := by
  intro σ G H W
  refine WSs.cons (ps_if (tc := WT (Us X) c) (WT.pt (F := Us X) ()) WSs.pss WSs.pss) ?_
  have key : ∀ {σ' : St} {H' : Hp}, LpJ K B Pv Γf Of σ' H' → WSs X rest D σ' H' := fun {σ' H'} ⟨d, G', pd, W'⟩ => h3 d pd σ' G' H' W'
  refine h σ G H W _ fun b O' G' H' kk W' _ => ?_
  cases b with
  | true => exact WSs.mono (D0 := { D with nx := LpJ K B Pv Γf Of }) ⟨fun _ _ z => key z, fun _ _ z => z, fun _ _ z => z, fun _ _ z => z⟩ (kk.1 rfl σ G' H' W')
  | false => exact WSs.mono (D0 := { D with nx := LpJ K B Pv Γf Of }) ⟨fun _ _ z => key z, fun _ _ z => z, fun _ _ z => z, fun _ _ z => z⟩ (kk.2 rfl σ G' H' W')
/-- the end of a way that meets others -/
theorem s_join {δ : Type} {Pv : δ → Prop} {Γf : δ → Gm} {Of : δ → List Own} (d : δ) (h : Pv d) (hw : Wk Γ (Γf d)) (ho : O = Of d) : DS X K B Γ O [] { D with nx := LpJ K B Pv Γf Of } :=
  s_nil fun σ G H W => ⟨d, G, h, by rw [← ho]; exact W.wk hw⟩
end
end Sk
set_option Elab.async false
set_option linter.all false
set_option maxRecDepth 100000
set_option maxHeartbeats 4100000
/-! Sk7: displays of dicts by written keys, more bounds. -/
namespace Sk
open PySem L2 Evl
theorem valV_none {kvs : List (Key × V)} {k : Key} (h : k ∉ kvs.map (·.1)) : valV kvs k = none := by
  induction kvs with
  | nil => rfl
  | cons p r ih =>
    rw [List.map_cons, List.mem_cons, not_or] at h
    rw [valV_neg (fun z => h.1 z.symm)]
    exact ih h.2
theorem merge_new : ∀ (more acc : List (Key × V)), ((acc ++ more).map (·.1)).Nodup → mergeK acc more = acc ++ more
  | [], acc, _ => by simp [mergeK]
  | p :: r, acc, h => by
    have h2 : ((acc ++ [p] ++ r).map (·.1)).Nodup := by rw [List.append_assoc]; exact h
    have hn : p.1 ∉ acc.map (·.1) := by
      rw [List.map_append, List.map_cons] at h
      intro z
      exact (List.nodup_append.mp h).2.2 _ z _ List.mem_cons_self rfl
    show mergeK (putK acc p.1 p.2) r = acc ++ p :: r
    rw [putK_new _ (valV_none hn), merge_new r _ h2, List.append_assoc]
    rfl
theorem zipK_keys {ns : List Str} {vs : List V} (h : vs.length = ns.length) : (zipK ns vs).map (·.1) = ns.map Sum.inr := by
  unfold zipK
  rw [List.map_fst_zip]
  rw [List.length_map, h]
  exact Nat.le_refl _
theorem merge_zip {ns : List Str} {vs : List V} (hn : ns.Nodup) (h : vs.length = ns.length) : mergeK [] (zipK ns vs) = zipK ns vs := by
  refine merge_new _ _ ?_
  rw [List.nil_append, zipK_keys h]
  clear h
  induction ns with
  | nil => exact List.nodup_nil
  | cons a r ih =>
    rw [List.map_cons]
    refine List.nodup_cons.mpr ⟨fun z => ?_, ih (List.nodup_cons.mp hn).2⟩
    obtain ⟨b, hb, eb⟩ := List.mem_map.mp z
    have eb' : b = a := Sum.inr.inj eb
    exact (List.nodup_cons.mp hn).1 (eb' ▸ hb)
section
variable {ι : Type} {F : ι → Cx} {K : Fg} {B : Bs} {Γ : Gm} {O : List Own} {α β γ : Type} {ra : Rp α} {rb : Rp β} {e : Expr} {es : List Expr} {pos : Pos} {ns : List Str}
def oNil : Ow Unit := ⟨fun _ _ o _ => o = .dK [], fun _ h => h⟩
/-- the values of a display, from the left -/
def DDs (F : ι → Cx) (K : Fg) (B : Bs) (Γ : Gm) (O : List Own) (kes : List (Str × Expr)) (f : RpF α) (Φ : α → List Own → Prop) : Prop :=
  ∀ σ G H, Ws K B Γ O σ G H → ∀ Q : List (V × V) → Hp → Prop, (∀ x O' vs G' H', Φ x O' → Ws K B Γ O' σ G' H' → Ex G G' → f.rep K G' vs x → vs.length = kes.length → Q ((kes.map fun p => V.str p.1).zip vs) H') → tPairs (kes.map fun p => (tC (.str p.1), WE F p.2)) σ H Q
theorem dd_one {key : Str} {Φ : α → List Own → Prop} (h : DW F K B Γ O e ra Φ) : DDs F K B Γ O [(key, e)] (fOne ra) Φ := by
  intro σ G H W Q q
  show WE F e σ H _
  exact h σ G H W _ fun x O1 v G1 H1 k W1 e1 r1 => q x O1 [v] G1 H1 k W1 e1 ⟨v, rfl, r1⟩ rfl
theorem dd_cons {key : Str} {kes : List (Str × Expr)} {f : RpF β} {Φ : α × β → List Own → Prop} (h : DW F K B Γ O e ra fun x O1 => DDs F K B Γ O1 kes f fun y O2 => Φ (x, y) O2) : DDs F K B Γ O ((key, e) :: kes) (fCons ra f) Φ := by
  intro σ G H W Q q
  show WE F e σ H _
  refine h σ G H W _ fun x O1 v G1 H1 k W1 e1 r1 => ?_
  exact k σ G1 H1 W1 _ fun y O2 vs G2 H2 k2 W2 e2 r2 hl => q (x, y) O2 (v :: vs) G2 H2 k2 W2 (e1.trans e2) ⟨v, vs, rfl, ra.mono e2 r1, r2⟩ (by rw [List.length_cons, List.length_cons, hl])
/-- {'key': e, ..}: a new dict of one's own -/
theorem d_disp {keys : List (Option Expr)} {f : RpF α} {Φ : Addr → List Own → Prop} (hn : ns.Nodup) (hp : ∀ i, PPs (F i) pos keys es ((ns.zip es).map fun p => (tC (.str p.1), WE F p.2)))
    (h : ∀ p, p ∉ B.M → DDs F K B Γ (⟨p, oNil, ()⟩ :: O) (ns.zip es) f fun x O1 => ∃ O2, O1 = ⟨p, oNil, ()⟩ :: O2 ∧ Φ p (⟨p, oRec ns f, x⟩ :: O2))
    (hall : keys.all (·.isSome) = true := by rfl) (hl : keys.length = es.length := by rfl) (h0 : keys ≠ [] := by simp) (h15 : keys.length ≤ 15 := by decide) (hk : es.length = ns.length := by rfl) : DW F K B Γ O (.Dict keys es pos) rAdr Φ := by
  intro σ G H W Q q
  refine ⟨_, fun i => pe_disp (hp i) hall hl h0 h15, ?_⟩
  intro p hp'
  refine h p (W.notM hp') σ G _ (W.newOwn hp' (r := oNil) (x := ()) rfl) _ fun x O1 vs G1 H1 ⟨O2, e1, kk⟩ W1 ex r1 hlen => ?_
  subst e1
  obtain ⟨⟨o, h1, h2⟩, _⟩ := W1.own _ List.mem_cons_self
  have h2' : o = .dK [] := h2
  subst h2'
  have hz : (ns.zip es).length = ns.length := by rw [List.length_zip, hk, Nat.min_self]
  have hlen2 : vs.length = ns.length := by rw [hlen, hz]
  refine ⟨h1, zipK ns vs, ?_, ?_, q p _ (.ref p) G1 _ kk (W1.mutHd (r' := oRec ns f) (x' := x) ⟨vs, congrArg HO.dK (merge_zip hn hlen2), r1⟩) ex rfl⟩
  · have e2 : ∀ (ks : List (Str × Expr)) (ws : List V), (ks.map fun p => V.str p.1).zip ws = (zipK (ks.map (·.1)) ws).map fun kv => (kV kv.1, kv.2) := by
      intro ks
      induction ks with
      | nil => intro ws; rfl
      | cons a r ih =>
        intro ws
        cases ws with
        | nil => rfl
        | cons b ws =>
          show (V.str a.1, b) :: _ = (kV (Sum.inr a.1), b) :: _
          exact congrArg _ (ih ws)
    have e3 : (ns.zip es).map (·.1) = ns := List.map_fst_zip (by rw [hk]; exact Nat.le_refl _)
    have e4 := e2 (ns.zip es) vs
    rw [e3] at e4
    exact e4
  · unfold zipK
    rw [List.length_zip, hlen2, List.length_map, Nat.min_self, ← hk, ← hl]
    exact h15
end
/-! a promise of a new own object -/
section
variable {K : Fg} {B : Bs} {Γ : Gm} {O : List Own} {α β δ : Type} {ra : RpF α} {pre : α → Prop} {T : List Addr} {r' : Ow δ} {post : α → δ → Prop}
abbrev spN (K : Fg) (T : List Addr) (ra : RpF α) (pre : α → Prop) (r' : Ow δ) (post : α → δ → Prop) : Sp := spM K T ra pre (fun _ => []) rAdr fun x q O' => ∃ d, post x d ∧ O' = [⟨q, r', d⟩]
theorem sw_n {x : α} {Φ : Addr → List Own → Prop} (hp : pre x) (h : ∀ q d, post x d → Φ q (⟨q, r', d⟩ :: O)) (hT : ∀ P ∈ T, P ∈ B.T := by first | exact fun _ h => h | (intro _ h; cases h)) : SW K B Γ O (spN K T ra pre r' post) [] ra x rAdr Φ :=
  sw_m O hp (fun w hw => hw) (fun z => z) (fun q O' ⟨d, p, e⟩ => by subst e; exact h q d p) hT
end
/-! bounds -/
class Sm (x : Int) : Prop where
  lt : x.natAbs < 2 ^ 8000
theorem smOk {k : Nat} {x : Int} [h : Bd k x] (hk : k ≤ 8000 := by decide) : Sm x := ⟨(h.mono hk).lt⟩
theorem Sm.bd {x : Int} (h : Sm x) : Bd 8000 x := ⟨h.lt⟩
theorem bd_len {α : Type} {xs : List α} (h : xs.length ≤ sizeLine) : Bd 25 (xs.length : Int) := Bd.of (by omega) (by
  have e : sizeLine ≤ 2 ^ 24 := by decide
  omega)
theorem mod_rng (x : Int) {y : Int} (h : 0 < y) : 0 ≤ x % y ∧ x % y < y := ⟨Int.emod_nonneg x (by omega), Int.emod_lt_of_pos x h⟩
theorem atI_lt {α : Type} {xs : List α} {i : Int} (h0 : 0 ≤ i) (h1 : i < (xs.length : Int)) : ∃ x, atI xs i = some x ∧ x ∈ xs ∧ xs[i.toNat]? = some x := by
  have hl : i.toNat < xs.length := by omega
  refine ⟨xs[i.toNat], ?_, List.getElem_mem hl, List.getElem?_eq_getElem hl⟩
  unfold atI
  rw [atI_ok h0 (by omega)]
  exact List.getElem?_eq_getElem hl
theorem atI_getD {α : Type} {xs : List α} {i : Int} (d : α) (h0 : 0 ≤ i) (h1 : i < (xs.length : Int)) : atI xs i = some (xs.getD i.toNat d) := by
  obtain ⟨x, h, _, h2⟩ := atI_lt h0 h1
  rw [h, List.getD_eq_getElem?_getD, h2]
  rfl
end Sk
namespace Sk
open PySem L2 Evl
theorem rt_drop {K : Fg} {B : Bs} {Γ : Gm} {O : List Own} {α : Type} {r : Rp α} {x : α} {D : Ends} (h : RT K B Γ [] r x D) : RT K B Γ O r x D := fun v σ G H W => h v σ G H (W.perm (fun _ z => absurd z (by simp)) fun _ => List.nodup_nil)
theorem rgI_item {lo c : Int} {m i : Nat} {x : Int} (h : (rgI lo c m)[i]? = some x) : i < m ∧ x = lo + (i : Int) * c := by
  have hl := (List.getElem?_eq_some_iff.mp h).1
  rw [rgI_len] at hl
  rw [rgI_get hl] at h
  exact ⟨hl, (Option.some.inj h).symm⟩
theorem isi_bool_bool : kitB "bool" "bool" = some true := by decide +kernel
theorem isi_str_str : kitB "str" "str" = some true := by decide +kernel
end Sk
set_option Elab.async false
set_option linter.all false
set_option maxRecDepth 100000
set_option maxHeartbeats 4100000
/-! Sk8: built-in functions by a module's name; math.isqrt. -/
namespace Sk
open PySem L2 Evl
section
variable {ι : Type} {F : ι → Cx} {K : Fg} {B : Bs} {Γ : Gm} {O : List Own} {α β γ : Type} {ra : Rp α} {rb : Rp β} {rc : Rp γ} {e : Expr} {es : List Expr} {pos p : Pos} {n : Str}
variable {P : Program} {w : World} {mg : Str → Option Value} {base : Heap} {k : Nat}
theorem d_callG [fam : Fam F P w K mg base k] {id : String} {g : RpF α} {Φ : γ → List Own → Prop} (hm : mg n = some (.builtin id)) (h : DA F K B Γ O (e :: es) g fun x O1 => CW F K B Γ O1 (.builtin id) g x rc Φ)
    (hg : ∀ i, Gl (F i) n := by intro _; rfl) (hdb : (n == ("__debug__" : Str)) = false := by decide)
    (he : ∀ i, starEach (e :: es) (F i).env = (false, eval e (F i).env) :: starEach es (F i).env := by intro _; rfl) (hpl : ∀ i, (backTo pos (starEach es (F i).env)).any (·.1) = false := by intro _; rfl) :
    DW F K B Γ O (.Call (.Name n p) (e :: es) [] pos) rc Φ := by
  intro σ G H W Q q
  refine ⟨_, fun i => pe_callBfun (wCl.cl i) (hg i) (by rw [fam.mg i]; exact hm) (WA.pa i) hdb (he i) (hpl i), ?_⟩
  refine h σ G H W _ fun x O1 vs G1 H1 k W1 e1 r1 => ?_
  exact k σ G1 H1 vs W1 r1 Q fun z O' u G2 H2 k2 W2 e2 r2 => q z O' u G2 H2 k2 W2 (e1.trans e2) r2
/-- the root, rounded down -/
def sqr (x : Int) : Int := (Float64.isqrt x.toNat : Nat)
theorem sqr_ok {x : Int} (h : 0 ≤ x) : 0 ≤ sqr x ∧ sqr x * sqr x ≤ x ∧ x < (sqr x + 1) * (sqr x + 1) := by
  obtain ⟨n, rfl⟩ := Int.eq_ofNat_of_zero_le h
  obtain ⟨h1, h2⟩ := Float64.isqrt_spec n
  unfold sqr
  rw [Int.toNat_natCast]
  exact ⟨Int.natCast_nonneg _, by exact_mod_cast h1, by exact_mod_cast h2⟩
def rSqrt : List V → Hp → VK → Prop := fun vs H Q => ∃ a : Int, vs = [.int a] ∧ (0 ≤ a ∧ a.toNat.log2 ≤ 13000) ∧ Q (.int (sqr a)) H
theorem cr_sqrt {X : Cx} : CallR X (.builtin "math.isqrt") rSqrt := by
  intro pins s σ H vs us Q I r h
  obtain ⟨a, rfl, ⟨h0, h1⟩, q⟩ := h
  obtain ⟨u, rfl, t, rfl⟩ := vals1 r
  exact call_function_meets PySem.W.MGF.kind_isqrt PySem.W.MGF.plain_isqrt PySem.W.MGF.entry_isqrt (PySem.W.MGF.args_isqrt _) (PySem.W.mg_run_isqrt a t (by omega) (by omega) (by omega)).meets ⟨.int _, H, I.tok _, ⟨_, rfl⟩, q⟩
theorem c_sqrt {x : Int} {b : Nat} [hb : Bd b x] {Φ : Int → List Own → Prop} (h0 : 0 ≤ x) (k : Φ (sqr x) O) (h1 : b ≤ 13000 := by decide) : CW F K B Γ O (.builtin "math.isqrt") (fOne rInt) x rInt Φ :=
  fun σ G H vs W ⟨v, e, rv⟩ Q q => ⟨_, fun _ => cr_sqrt, x, by rw [e, show v = V.int x from rv], ⟨h0, by
    have := log2_le hb
    rw [show x.natAbs = x.toNat by omega] at this
    omega⟩, q _ O _ G H k W (Ex.refl _) rfl⟩
end
end Sk
set_option Elab.async false
set_option linter.all false
set_option maxRecDepth 100000
set_option maxHeartbeats 4100000
/-! Sk9: deep equality, max and min of a list, len of a tuple, slices. -/
namespace Sk
open PySem L2 Evl
/-! ### data that == looks into -/
class Dat {α : Type} (r : Rp α) (enc : outParam (α → PyData)) (n : outParam Nat) (good : outParam (α → Prop)) : Prop where
  dp : ∀ {K : Fg} {G H : Hp} {v : V} {x : α}, Ex G H → r.rep K G v x → Dp K H v (enc x)
  lay : ∀ {x}, good x → PyData.canLay0 (enc x) = true
  dep : ∀ x, (enc x).depth ≤ n
  eqv : ∀ x y, PyData.eqv (enc x) (enc y) = true ↔ x = y
class DatF {α : Type} (f : RpF α) (enc : outParam (α → List PyData)) (n : outParam Nat) (good : outParam (α → Prop)) : Prop where
  dp : ∀ {K : Fg} {G H : Hp} {vs : List V} {x : α}, Ex G H → f.rep K G vs x → DpAll K H vs (enc x)
  lay : ∀ {x}, good x → PyData.canLayAll0 (enc x) = true
  dep : ∀ x, PyData.depthAll (enc x) ≤ n
  eqv : ∀ x y, PyData.eqvAll (enc x) (enc y) = true ↔ x = y
section
variable {α β γ : Type}
instance datInt : Dat rInt PyData.int 0 (fun _ => True) := ⟨fun _ h => by rw [show _ = V.int _ from h]; exact .int _, fun _ => rfl, fun _ => Nat.le_refl _, fun x y => by
  show (x == y) = true ↔ _
  simp⟩
instance datBool : Dat rBool PyData.bool 0 (fun _ => True) := ⟨fun _ h => by rw [show _ = V.bl _ from h]; exact .bl _, fun _ => rfl, fun _ => Nat.le_refl _, fun x y => by
  show (x == y) = true ↔ _
  simp⟩
instance datStr : Dat rStr PyData.str 0 (fun x => PyData.strOk x = true) := ⟨fun _ h => by rw [show _ = V.str _ from h]; exact .str _, fun h => h, fun _ => Nat.le_refl _, fun x y => by
  show (x == y) = true ↔ _
  simp⟩
instance datNon : Dat rNon (fun _ => PyData.none) 0 (fun _ => True) := ⟨fun _ h => by rw [show _ = V.non from h]; exact .non, fun _ => rfl, fun _ => Nat.le_refl _, fun x y => by
  show true = true ↔ _
  simp⟩
theorem all2_dp {r : Rp α} {enc : α → PyData} {n : Nat} {good : α → Prop} (hr : Dat r enc n good) {K : Fg} {G H : Hp} (e : Ex G H) : ∀ {vs : List V} {xs : List α}, All2 (r.rep K G) vs xs → DpAll K H vs (xs.map enc)
  | [], [], _ => .nil
  | _ :: _, _ :: _, ⟨a, b⟩ => .cons (hr.dp e a) (all2_dp hr e b)
  | [], _ :: _, z => z.elim
  | _ :: _, [], z => z.elim
theorem map_lay {r : Rp α} {enc : α → PyData} {n : Nat} {good : α → Prop} (hr : Dat r enc n good) : ∀ {xs : List α}, (∀ x ∈ xs, good x) → PyData.canLayAll0 (xs.map enc) = true
  | [], _ => rfl
  | x :: xs, h => by
    show (PyData.canLay0 (enc x) && PyData.canLayAll0 (xs.map enc)) = true
    rw [hr.lay (h x List.mem_cons_self), map_lay hr fun y hy => h y (List.mem_cons_of_mem _ hy)]
    rfl
theorem map_dep {r : Rp α} {enc : α → PyData} {n : Nat} {good : α → Prop} (hr : Dat r enc n good) : ∀ (xs : List α), PyData.depthAll (xs.map enc) ≤ n
  | [] => Nat.zero_le _
  | x :: xs => by
    show max (enc x).depth (PyData.depthAll (xs.map enc)) ≤ n
    exact Nat.max_le.mpr ⟨hr.dep x, map_dep hr xs⟩
theorem map_eqv {r : Rp α} {enc : α → PyData} {n : Nat} {good : α → Prop} (hr : Dat r enc n good) : ∀ (xs ys : List α), PyData.eqvAll (xs.map enc) (ys.map enc) = true ↔ xs = ys
  | [], [] => by simp [PyData.eqvAll]
  | [], _ :: _ => by simp [PyData.eqvAll]
  | _ :: _, [] => by simp [PyData.eqvAll]
  | x :: xs, y :: ys => by
    show (PyData.eqv (enc x) (enc y) && PyData.eqvAll (xs.map enc) (ys.map enc)) = true ↔ _
    rw [Bool.and_eq_true, hr.eqv, map_eqv hr xs ys]
    simp
instance datLst {r : Rp α} {enc : α → PyData} {n : Nat} {good : α → Prop} [hr : Dat r enc n good] : Dat (rLst r) (fun xs => PyData.list (xs.map enc)) (n + 1) (fun xs => ∀ x ∈ xs, good x) :=
  ⟨fun e ⟨a, vs, h1, h2, h3⟩ => by rw [h1]; exact .lst (SqL.of (e _ _ h2)) (all2_dp hr e h3), fun h => by show PyData.canLayAll0 _ = true; exact map_lay hr h, fun xs => by show PyData.depthAll _ + 1 ≤ n + 1; exact Nat.succ_le_succ (map_dep hr xs), fun xs ys => by show PyData.eqvAll _ _ = true ↔ _; exact map_eqv hr xs ys⟩
instance datSeq {r : Rp α} {enc : α → PyData} {n : Nat} {good : α → Prop} [hr : Dat r enc n good] : Dat (rSeq r) (fun xs => PyData.list (xs.map enc)) (n + 1) (fun xs => ∀ x ∈ xs, good x) :=
  ⟨fun e ⟨a, vs, h1, h2, h3⟩ => by rw [h1]; exact .lst (ex_l e h2) (all2_dp hr e h3), fun h => by show PyData.canLayAll0 _ = true; exact map_lay hr h, fun xs => by show PyData.depthAll _ + 1 ≤ n + 1; exact Nat.succ_le_succ (map_dep hr xs), fun xs ys => by show PyData.eqvAll _ _ = true ↔ _; exact map_eqv hr xs ys⟩
instance datTpv {r : Rp α} {enc : α → PyData} {n : Nat} {good : α → Prop} [hr : Dat r enc n good] : Dat (rTpv r) (fun xs => PyData.tuple (xs.map enc)) (n + 1) (fun xs => ∀ x ∈ xs, good x) :=
  ⟨fun e ⟨a, vs, h1, h2, h3⟩ => by rw [h1]; exact .tup (ex_t e h2) (all2_dp hr e h3), fun h => by show PyData.canLayAll0 _ = true; exact map_lay hr h, fun xs => by show PyData.depthAll _ + 1 ≤ n + 1; exact Nat.succ_le_succ (map_dep hr xs), fun xs ys => by show PyData.eqvAll _ _ = true ↔ _; exact map_eqv hr xs ys⟩
instance datOne {r : Rp α} {enc : α → PyData} {n : Nat} {good : α → Prop} [hr : Dat r enc n good] : DatF (fOne r) (fun x => [enc x]) n good :=
  ⟨fun e ⟨v, h1, h2⟩ => by rw [h1]; exact .cons (hr.dp e h2) .nil, fun h => by show (PyData.canLay0 _ && true) = true; rw [hr.lay h]; rfl, fun x => by show max _ 0 ≤ n; exact Nat.max_le.mpr ⟨hr.dep x, Nat.zero_le _⟩, fun x y => by
    show (PyData.eqv _ _ && true) = true ↔ _
    rw [Bool.and_true]
    exact hr.eqv x y⟩
instance datCons {r : Rp α} {enc : α → PyData} {n m : Nat} {good : α → Prop} {f : RpF β} {enc' : β → List PyData} {good' : β → Prop} [hr : Dat r enc n good] [hf : DatF f enc' m good'] : DatF (fCons r f) (fun x => enc x.1 :: enc' x.2) (max n m) (fun x => good x.1 ∧ good' x.2) :=
  ⟨fun e ⟨v, ws, h1, h2, h3⟩ => by rw [h1]; exact .cons (hr.dp e h2) (hf.dp e h3), fun h => by show (PyData.canLay0 _ && PyData.canLayAll0 _) = true; rw [hr.lay h.1, hf.lay h.2]; rfl,
   fun x => by show max _ _ ≤ _; exact Nat.max_le.mpr ⟨Nat.le_trans (hr.dep x.1) (Nat.le_max_left _ _), Nat.le_trans (hf.dep x.2) (Nat.le_max_right _ _)⟩, fun x y => by
    show (PyData.eqv _ _ && PyData.eqvAll _ _) = true ↔ _
    rw [Bool.and_eq_true, hr.eqv, hf.eqv]
    exact Prod.ext_iff.symm⟩
instance datTup {f : RpF β} {enc : β → List PyData} {m : Nat} {good : β → Prop} [hf : DatF f enc m good] : Dat (rTup f) (fun x => PyData.tuple (enc x)) (m + 1) good :=
  ⟨fun e ⟨a, vs, h1, h2, h3⟩ => by rw [h1]; exact .tup (ex_t e h2) (hf.dp e h3), fun h => hf.lay h, fun x => by show PyData.depthAll _ + 1 ≤ m + 1; exact Nat.succ_le_succ (hf.dep x), fun x y => by show PyData.eqvAll _ _ = true ↔ _; exact hf.eqv x y⟩
variable {ι : Type} {F : ι → Cx} {K : Fg} {B : Bs} {Γ : Gm} {O : List Own} {ra : Rp α} {rb : Rp β} {e : Expr} {es : List Expr} {pos p : Pos} {n : Str}
variable {P : Program} {w : World} {mg : Str → Option Value} {base : Heap} {k : Nat}
/-- of the value only Pp is kept -/
theorem d_abs (Pp : α → Prop) {Φ : α → List Own → Prop} (kk : ∀ x, Pp x → Φ x O) (h : DW F K B Γ O e ra fun x O' => Pp x ∧ O' = O) : DW F K B Γ O e ra Φ := d_mono h fun x O' ⟨e1, e2⟩ => by
  subst e2
  exact kk x e1
theorem shp {r : Rp α} {enc : α → PyData} {n : Nat} {good : α → Prop} (hr : Dat r enc n good) {x : α} (h : good x) (hn : n ≤ 64) : SeqAt.shaped (enc x) = true := by
  unfold SeqAt.shaped
  rw [hr.lay h, decide_eq_true (Nat.le_trans (hr.dep x) hn)]
  rfl
theorem o_eqD [fam : Fam F P w K mg base k] {enc : α → PyData} {n : Nat} {good : α → Prop} [hr : Dat ra enc n good] [DecidableEq α] {x y : α} {Ψ : Bool → List Own → Prop} (hx : good x) (hy : good y) (kk : Ψ (decide (x = y)) O) (hn : n ≤ 64 := by decide) : OW F K B Γ O (compareOp .Eq) ra ra x y rBool Ψ := fun σ G H v w W rv rw Q q =>
  ⟨rEqD K, fun j => by rw [← fam.ka j]; exact op_eqD (by have := (fam.rm j).units; omega), enc x, enc y, hr.dp W.sub rv, hr.dp W.sub rw, shp hr hx hn, shp hr hy hn, q _ O _ G H kk W (Ex.refl _) (by
    refine congrArg V.bl ?_
    by_cases z : x = y
    · rw [decide_eq_true z, (hr.eqv x y).mpr z]
    · rw [decide_eq_false z]
      exact Bool.eq_false_iff.mpr fun z2 => z ((hr.eqv x y).mp z2))⟩
theorem o_neD [fam : Fam F P w K mg base k] {enc : α → PyData} {n : Nat} {good : α → Prop} [hr : Dat ra enc n good] [DecidableEq α] {x y : α} {Ψ : Bool → List Own → Prop} (hx : good x) (hy : good y) (kk : Ψ (!decide (x = y)) O) (hn : n ≤ 64 := by decide) : OW F K B Γ O (compareOp .NotEq) ra ra x y rBool Ψ := fun σ G H v w W rv rw Q q =>
  ⟨rNeD K, fun j => by rw [← fam.ka j]; exact op_neD (by have := (fam.rm j).units; omega), enc x, enc y, hr.dp W.sub rv, hr.dp W.sub rw, shp hr hx hn, shp hr hy hn, q _ O _ G H kk W (Ex.refl _) (by
    refine congrArg (fun b => V.bl (!b)) ?_
    by_cases z : x = y
    · rw [decide_eq_true z, (hr.eqv x y).mpr z]
    · rw [decide_eq_false z]
      exact Bool.eq_false_iff.mpr fun z2 => z ((hr.eqv x y).mp z2))⟩
/-! ### max and min of a list, len of a tuple -/
theorem c_maxL {xs : List Int} {Φ : Int → List Own → Prop} (h0 : 0 < xs.length) (kk : ∀ m, m ∈ xs → (∀ y ∈ xs, y ≤ m) → Φ m O) (hK : ∀ j, (F j).K = K := by intro _; rfl) (hc : ∀ j, (F j).calm = true := by intro _; rfl) : CW F K B Γ O (.builtin "max") (fOne (rLst rInt)) xs rInt Φ :=
  fun σ G H vs W ⟨v, e, a, ws, h1, h2, h3⟩ Q q => ⟨rMax K, fun j => by rw [← hK j]; exact cr_max (hc j), a, xs, by rw [e, h1], SqL.of (W.sub _ _ (by rw [← All2.map_int h3]; exact h2)), h0, fun m hm1 hm2 => q _ O _ G H (kk m hm1 hm2) W (Ex.refl _) rfl⟩
end
theorem atI_last {α : Type} {l : List α} {x : α} (h : l.getLast? = some x) : atI l (-1) = some x := by
  cases l with
  | nil => simp at h
  | cons a r =>
    rw [List.getLast?_eq_getElem?] at h
    unfold atI ixN
    rw [if_neg (by omega), if_pos (by rw [List.length_cons]; omega)]
    show (a :: r)[((((a :: r).length : Nat) : Int) + -1).toNat]? = some x
    rw [show ((((a :: r).length : Nat) : Int) + -1).toNat = (a :: r).length - 1 by rw [List.length_cons]; omega]
    exact h
end Sk
set_option Elab.async false
set_option linter.all false
set_option maxRecDepth 100000
set_option maxHeartbeats 4100000
/-! Sk10: lists of any kind (pure, own): slices, stars, concatenation, methods; retyped slots; any, all. -/
namespace Sk
open PySem L2 Evl
/-! ### what reads as a list -/
class LsR {α : Type} (O : List Own) (ra : Rp α) (x : α) {β : outParam Type} (r : outParam (Rp β)) (xs : outParam (List β)) : Prop where
  get : ∀ {K : Fg} {B : Bs} {Γ : Gm} {σ : St} {G H : Hp} {v : V}, Ws K B Γ O σ G H → ra.rep K G v x → ∃ p vs, v = .ref p ∧ SqL K H p vs ∧ All2 (r.rep K G) vs xs
/-- and is no kept list of the module -/
class LsH {α : Type} (O : List Own) (ra : Rp α) (x : α) {β : outParam Type} (r : outParam (Rp β)) (xs : outParam (List β)) : Prop where
  get : ∀ {K : Fg} {B : Bs} {Γ : Gm} {σ : St} {G H : Hp} {v : V}, Ws K B Γ O σ G H → ra.rep K G v x → ∃ p vs, v = .ref p ∧ H p = some (.lst vs) ∧ All2 (r.rep K G) vs xs
section
variable {α β γ : Type}
instance lsrL {O : List Own} {r : Rp β} {xs : List β} : LsR O (rLst r) xs r xs := ⟨fun W ⟨a, vs, h1, h2, h3⟩ => ⟨a, vs, h1, SqL.of (W.sub _ _ h2), h3⟩⟩
instance lsrS {O : List Own} {r : Rp β} {xs : List β} : LsR O (rSeq r) xs r xs := ⟨fun W ⟨a, vs, h1, h2, h3⟩ => ⟨a, vs, h1, ex_l W.sub h2, h3⟩⟩
instance lsrO {O : List Own} {q : Addr} {r : Rp β} {xs : List β} {f : Own → List Own} [h : OwnAt O q (oLst r) xs f] : LsR O rAdr q r xs := ⟨fun W e => by
  obtain ⟨u, h2, ws, h3, h4⟩ := W.ownO h
  subst h3
  exact ⟨q, ws, e, SqL.of h2, h4⟩⟩
instance lshL {O : List Own} {r : Rp β} {xs : List β} : LsH O (rLst r) xs r xs := ⟨fun W ⟨a, vs, h1, h2, h3⟩ => ⟨a, vs, h1, W.sub _ _ h2, h3⟩⟩
instance lshO {O : List Own} {q : Addr} {r : Rp β} {xs : List β} {f : Own → List Own} [h : OwnAt O q (oLst r) xs f] : LsH O rAdr q r xs := ⟨fun W e => by
  obtain ⟨u, h2, ws, h3, h4⟩ := W.ownO h
  subst h3
  exact ⟨q, ws, e, h2, h4⟩⟩
variable {ι : Type} {F : ι → Cx} {K : Fg} {B : Bs} {Γ : Gm} {O : List Own} {ra : Rp α} {rb : Rp β} {rc : Rp γ} {e a b o : Expr} {es : List Expr} {lo hi : Option Expr} {pos p p2 apos : Pos} {n : Str}
variable {P : Program} {w : World} {mg : Str → Option Value} {base : Heap} {k : Nat}
theorem c_lenG {xs : List β} {x : α} [hl : LsR O ra x rb xs] {Φ : Int → List Own → Prop} (kk : Φ (xs.length : Int) O) (hK : ∀ j, (F j).K = K := by intro _; rfl) : CW F K B Γ O (.builtin "len") (fOne ra) x rInt Φ :=
  fun σ G H vs W ⟨v, e, rv⟩ Q q' => by
    obtain ⟨c, ws, h1, h2, h3⟩ := hl.get W rv
    exact ⟨fun xs H Q => ∃ p ys, xs = [.ref p] ∧ (SqL K H p ys ∨ SqT K H p ys) ∧ Q (.int ys.length) H, fun j => by rw [← hK j]; exact call_len_seq, c, ws, by rw [e, h1], .inl h2, q' _ O _ G H kk W (Ex.refl _) (by rw [h3.length]; rfl)⟩
theorem i_ls {xs : List β} {x : α} {y : β} {i : Int} [hl : LsR O ra x rb xs] {Φ : β → List Own → Prop} (h : atI xs i = some y) (kk : Φ y O) (hK : ∀ j, (F j).K = K := by intro _; rfl) : IW F K B Γ O ra rInt x i rb Φ := by
  intro σ G H v w W rv rw Q q'
  obtain ⟨c, ws, h1, h2, h3⟩ := hl.get W rv
  unfold atI at h
  obtain ⟨j, h5, h6⟩ := Option.bind_eq_some_iff.mp h
  obtain ⟨u, h7, h8⟩ := h3.get' h6
  refine ⟨rIxL K, fun j => by rw [← hK j]; exact ix_list, c, ws, i, u, h1, rw, h2, ?_, q' y O u G H kk W (Ex.refl _) h8⟩
  unfold atI
  rw [h3.length, h5]
  exact h7
theorem c_maxG {xs : List Int} {x : α} [hl : LsR O ra x rInt xs] {Φ : Int → List Own → Prop} (h0 : 0 < xs.length) (kk : ∀ m, m ∈ xs → (∀ y ∈ xs, y ≤ m) → Φ m O) (hK : ∀ j, (F j).K = K := by intro _; rfl) (hc : ∀ j, (F j).calm = true := by intro _; rfl) : CW F K B Γ O (.builtin "max") (fOne ra) x rInt Φ :=
  fun σ G H vs W ⟨v, e, rv⟩ Q q' => by
    obtain ⟨c, ws, h1, h2, h3⟩ := hl.get W rv
    exact ⟨rMax K, fun j => by rw [← hK j]; exact cr_max (hc j), c, xs, by rw [e, h1], by rw [← All2.map_int h3]; exact h2, h0, fun m hm1 hm2 => q' _ O _ G H (kk m hm1 hm2) W (Ex.refl _) rfl⟩
theorem c_minG {xs : List Int} {x : α} [hl : LsR O ra x rInt xs] {Φ : Int → List Own → Prop} (h0 : 0 < xs.length) (kk : ∀ m, m ∈ xs → (∀ y ∈ xs, m ≤ y) → Φ m O) (hK : ∀ j, (F j).K = K := by intro _; rfl) (hc : ∀ j, (F j).calm = true := by intro _; rfl) : CW F K B Γ O (.builtin "min") (fOne ra) x rInt Φ :=
  fun σ G H vs W ⟨v, e, rv⟩ Q q' => by
    obtain ⟨c, ws, h1, h2, h3⟩ := hl.get W rv
    exact ⟨rMin K, fun j => by rw [← hK j]; exact cr_min (hc j), c, xs, by rw [e, h1], by rw [← All2.map_int h3]; exact h2, h0, fun m hm1 hm2 => q' _ O _ G H (kk m hm1 hm2) W (Ex.refl _) rfl⟩
theorem All2.map_bl : ∀ {vs : List V} {xs : List Bool}, All2 (fun v x => v = .bl x) vs xs → vs = xs.map V.bl
  | [], [], _ => rfl
  | _ :: _, _ :: _, ⟨a, b⟩ => by
    rw [a, All2.map_bl b]
    rfl
  | [], _ :: _, z => z.elim
  | _ :: _, [], z => z.elim
theorem c_anyG {xs : List Bool} {x : α} [hl : LsR O ra x rBool xs] {Φ : Bool → List Own → Prop} (kk : Φ (xs.any id) O) (hK : ∀ j, (F j).K = K := by intro _; rfl) (hc : ∀ j, (F j).calm = true := by intro _; rfl) : CW F K B Γ O (.builtin "any") (fOne ra) x rBool Φ :=
  fun σ G H vs W ⟨v, e, rv⟩ Q q' => by
    obtain ⟨c, ws, h1, h2, h3⟩ := hl.get W rv
    exact ⟨L2.rAny K, fun j => by rw [← hK j]; exact cr_any (hc j), c, xs, by rw [e, h1], by rw [← All2.map_bl h3]; exact h2, q' _ O _ G H kk W (Ex.refl _) rfl⟩
/-! ### slices -/
def WO (F : ι → Cx) (e : Option Expr) : TO := fun σ H Q => ∃ t, (∀ i, PO (F i) e t) ∧ t σ H Q
theorem WO.po {e : Option Expr} (i : ι) : PO (F i) e (WO F e) := ⟨fun pins s σ H Q I ⟨_, p, q⟩ => (p i).run pins s σ H Q I q⟩
def wSl (F : ι → Cx) : V → Option Int → Option Int → Hp → VK → Prop := fun x l h H Q => ∃ r, (∀ i, SlR (F i) r) ∧ r x l h H Q
theorem wSl.sl (i : ι) : SlR (F i) (wSl F) := fun pins s σ H x v vl vu lo hi sl Q I rx hs pl pu ⟨_, p, q⟩ => p i pins s σ H x v vl vu lo hi sl Q I rx hs pl pu q
def DO (F : ι → Cx) (K : Fg) (B : Bs) (Γ : Gm) (O : List Own) (e : Option Expr) (Φ : Option Int → List Own → Prop) : Prop :=
  ∀ σ G H, Ws K B Γ O σ G H → ∀ Q : Option Int → Hp → Prop, (∀ x O' G' H', Φ x O' → Ws K B Γ O' σ G' H' → Ex G G' → Q x H') → WO F e σ H Q
theorem do_no {Φ : Option Int → List Own → Prop} (kk : Φ none O) : DO F K B Γ O none Φ := fun σ G H W Q q => ⟨_, fun _ => po_none, q none O G H kk W (Ex.refl _)⟩
theorem do_at {Φ : Option Int → List Own → Prop} (h : DW F K B Γ O e rInt fun i O1 => Φ (some i) O1) : DO F K B Γ O (some e) Φ := by
  intro σ G H W Q q
  refine ⟨_, fun i => po_some (WE.pe i), ?_⟩
  exact h σ G H W _ fun x O1 v G1 H1 kk W1 e1 r1 => ⟨x, r1, q _ O1 G1 H1 kk W1 e1⟩
def SLW (F : ι → Cx) (K : Fg) (B : Bs) (Γ : Gm) (O : List Own) (ra : Rp α) (x : α) (l h : Option Int) (rc : Rp γ) (Φ : γ → List Own → Prop) : Prop :=
  ∀ σ G H v, Ws K B Γ O σ G H → ra.rep K G v x → ∀ Q : VK, (∀ z O' u G' H', Φ z O' → Ws K B Γ O' σ G' H' → Ex G G' → rc.rep K G' u z → Q u H') → wSl F v l h H Q
theorem d_slice {Φ : γ → List Own → Prop} (h : DW F K B Γ O e ra fun x O1 => DO F K B Γ O1 lo fun l O2 => DO F K B Γ O2 hi fun u O3 => SLW F K B Γ O3 ra x l u rc Φ) : DW F K B Γ O (.Subscript e (.Slice lo hi none p2) pos) rc Φ := by
  intro σ G H W Q q
  refine ⟨_, fun i => pe_slice (wSl.sl i) (WE.pe i) (WO.po i) (WO.po i), ?_⟩
  refine h σ G H W _ fun x O1 v G1 H1 h1 W1 e1 r1 => ?_
  refine h1 σ G1 H1 W1 _ fun l O2 G2 H2 h2 W2 e2 => ?_
  refine h2 σ G2 H2 W2 _ fun u O3 G3 H3 h3 W3 e3 => ?_
  exact h3 σ G3 H3 v W3 (ra.mono (e2.trans e3) r1) Q fun z O' u G' H' kk W' e' r' => q z O' u G' H' kk W' (((e1.trans e2).trans e3).trans e') r'
def cutL {α : Type} (xs : List α) (lo hi : Option Int) : List α := (xs.drop (HT.sIx xs.length 0 lo)).take (HT.sIx xs.length xs.length hi - HT.sIx xs.length 0 lo)
theorem cut_all2 {p : V → α → Prop} {vs : List V} {xs : List α} (h : All2 p vs xs) (lo hi : Option Int) : All2 p (cutV vs lo hi) (cutL xs lo hi) := by
  unfold cutV cutL
  rw [h.length]
  exact (h.drop _).take _
theorem sl_l {xs : List β} {x : α} {l h : Option Int} [hl : LsR O ra x rb xs] {Φ : List β → List Own → Prop} (kk : Φ (cutL xs l h) O) (hK : ∀ j, (F j).K = K := by intro _; rfl) : SLW F K B Γ O ra x l h (rLst rb) Φ := by
  intro σ G H v W rv Q q
  obtain ⟨c, ws, h1, h2, h3⟩ := hl.get W rv
  refine ⟨rSlL K, fun j => by rw [← hK j]; exact sl_list, c, ws, h1, h2, fun p hp => ?_⟩
  have s : Stp B.T [] G H (upd G p (.lst (cutV ws l h))) (upd H p (.lst (cutV ws l h))) := Stp.new W.sub hp
  exact q _ O _ _ _ kk (W.step s) s.g ⟨p, _, rfl, upd_same, (cut_all2 h3 l h).mono fun _ _ z => rb.mono s.g z⟩
/-- a tuple's slice, not the whole -/
theorem sl_t {xs : List β} {l h : Option Int} {Φ : List β → List Own → Prop} (hw : ¬ (HT.sIx xs.length 0 l = 0 ∧ HT.sIx xs.length xs.length h = xs.length)) (kk : Φ (cutL xs l h) O) (hK : ∀ j, (F j).K = K := by intro _; rfl) : SLW F K B Γ O (rTpv rb) xs l h (rTpv rb) Φ := by
  intro σ G H v W ⟨c, ws, h1, h2, h3⟩ Q q
  refine ⟨rSlT K, fun j => by rw [← hK j]; exact sl_tup, c, ws, h1, ex_t W.sub h2, by rw [h3.length]; exact hw, fun p hp => ?_⟩
  have s : Stp B.T [] G H (upd G p (.tup (cutV ws l h))) (upd H p (.tup (cutV ws l h))) := Stp.new W.sub hp
  exact q _ O _ _ _ kk (W.step s) s.g ⟨p, _, rfl, SqT.of upd_same, (cut_all2 h3 l h).mono fun _ _ z => rb.mono s.g z⟩
/-! ### stars, concatenation, list(xs) -/
theorem o_cat {xs ys : List γ} {x : α} {y : β} [h1 : LsH O ra x rc xs] [h2 : LsH O rb y rc ys] {Φ : List γ → List Own → Prop} (hz : xs.length + ys.length ≤ sizeLine) (kk : Φ (xs ++ ys) O) : OW F K B Γ O (binaryOp .Add) ra rb x y (rLst rc) Φ := by
  intro σ G H v u W rv ru Q q
  obtain ⟨c, vs, a1, a2, a3⟩ := h1.get W rv
  obtain ⟨d, us, b1, b2, b3⟩ := h2.get W ru
  refine ⟨_, fun _ => op_cat, c, d, vs, us, a1, b1, a2, b2, by rw [a3.length, b3.length]; exact hz, fun p hp => ?_⟩
  have s : Stp B.T [] G H (upd G p (.lst (vs ++ us))) (upd H p (.lst (vs ++ us))) := Stp.new W.sub hp
  exact q _ O _ _ _ kk (W.step s) s.g ⟨p, _, rfl, upd_same, (a3.append b3).mono fun _ _ z => rc.mono s.g z⟩
theorem c_list {xs : List β} {x : α} [hl : LsR O ra x rb xs] {Φ : List β → List Own → Prop} (kk : Φ xs O) (hK : ∀ j, (F j).K = K := by intro _; rfl) : CW F K B Γ O (.type "list") (fOne ra) x (rLst rb) Φ :=
  fun σ G H vs W ⟨v, e, rv⟩ Q q => by
    obtain ⟨c, ws, h1, h2, h3⟩ := hl.get W rv
    refine ⟨fun xs H Q => ∃ p ys, xs = [.ref p] ∧ (SqL K H p ys ∨ SqT K H p ys) ∧ ∀ l, H l = none → Q (.ref l) (upd H l (.lst ys)), fun j => by rw [← hK j]; exact call_list_of, c, ws, by rw [e, h1], .inl h2, fun p hp => ?_⟩
    have s : Stp B.T [] G H (upd G p (.lst ws)) (upd H p (.lst ws)) := Stp.new W.sub hp
    exact q _ O _ _ _ kk (W.step s) s.g ⟨p, _, rfl, upd_same, h3.mono fun _ _ z => rb.mono s.g z⟩
/-- tuple(xs) of a list -/
theorem c_tuple {xs : List β} {x : α} [hl : LsR O ra x rb xs] {Φ : List β → List Own → Prop} (kk : Φ xs O) (hK : ∀ j, (F j).K = K := by intro _; rfl) : CW F K B Γ O (.type "tuple") (fOne ra) x (rTpv rb) Φ :=
  fun σ G H vs W ⟨v, e, rv⟩ Q q => by
    obtain ⟨c, ws, h1, h2, h3⟩ := hl.get W rv
    refine ⟨fun xs H Q => ∃ p ys, xs = [.ref p] ∧ ((SqL K H p ys ∧ ∀ l, H l = none → Q (.ref l) (upd H l (.tup ys))) ∨ (SqT K H p ys ∧ Q (.ref p) H)), fun j => by rw [← hK j]; exact call_tuple_of, c, ws, by rw [e, h1], .inl ⟨h2, fun p hp => ?_⟩⟩
    have s : Stp B.T [] G H (upd G p (.tup ws)) (upd H p (.tup ws)) := Stp.new W.sub hp
    exact q _ O _ _ _ kk (W.step s) s.g ⟨p, _, rfl, SqT.of upd_same, h3.mono fun _ _ z => rb.mono s.g z⟩
/-! ### methods of an own list -/
/-! ### x == y: an own list of plain things and a list -/
/-! ### a thing or None -/
class NotNon (r : Rp α) : Prop where
  ne : ∀ {K : Fg} {G : Hp} {v : V} {x : α}, r.rep K G v x → v ≠ .non
instance : NotNon rInt := ⟨fun h z => by rw [show _ = V.int _ from h] at z; cases z⟩
instance : NotNon rBool := ⟨fun h z => by rw [show _ = V.bl _ from h] at z; cases z⟩
instance : NotNon rStr := ⟨fun h z => by rw [show _ = V.str _ from h] at z; cases z⟩
instance {r : Rp α} : NotNon (rLst r) := ⟨fun ⟨a, _, h, _⟩ z => by rw [h] at z; cases z⟩
instance {r : Rp α} : NotNon (rSeq r) := ⟨fun ⟨a, _, h, _⟩ z => by rw [h] at z; cases z⟩
instance {r : Rp α} : NotNon (rTpv r) := ⟨fun ⟨a, _, h, _⟩ z => by rw [h] at z; cases z⟩
instance {f : RpF α} : NotNon (rTup f) := ⟨fun ⟨a, _, h, _⟩ z => by rw [h] at z; cases z⟩
instance {ns : List Str} {f : RpF α} : NotNon (rRec ns f) := ⟨fun ⟨a, _, h, _⟩ z => by rw [h] at z; cases z⟩
theorem opt_some {r : Rp α} [hn : NotNon r] {K : Fg} {G : Hp} {v : V} {x : α} (h : r.rep K G v x) : (rOpt r).rep K G v (some x) := ⟨hn.ne h, h⟩
theorem d_some [hn : NotNon ra] {Φ : Option α → List Own → Prop} (h : DW F K B Γ O e ra fun x O' => Φ (some x) O') : DW F K B Γ O e (rOpt ra) Φ := fun σ G H W Q q =>
  h σ G H W Q fun x O' v G' H' kk W' e' hv => q (some x) O' v G' H' kk W' e' (opt_some hv)
end
section
variable {X : Cx} {K : Fg} {B : Bs} {Γ Γ' : Gm} {O O' : List Own} {α β γ : Type} {ra : Rp α} {rb : Rp β} {rc : Rp γ} {D : Ends} {rest : List Stmt} {e o i : Expr} {pos tpos : Pos}
variable {P : Program} {w : World} {mg : Str → Option Value} {base : Heap} {k : Nat}
/-- a slot seen as another kind of thing -/
theorem s_re (j : Nat) {x : α} {y : β} {f : Option Slot → Gm} [hA : At Γ j ra x] [hg : SetG Γ j f] (hc : ∀ {K : Fg} {G : Hp} {v : V}, ra.rep K G v x → rb.rep K G v y) (h : DS X K B (f (some ⟨rb, y⟩)) O rest D) : DS X K B Γ O rest D := fun σ G H W => by
  obtain ⟨u, h3, h4⟩ := W.env.get hA.get
  have W3 := W.set (s := ⟨rb, y⟩) j (u := u) (hc h4)
  have e2 : σ.set j (some u) = σ := by
    refine List.ext_getElem? fun l => ?_
    by_cases hj : j = l
    · subst hj
      rw [List.getElem?_set_self (List.getElem?_eq_some_iff.mp h3).1, h3]
    · rw [List.getElem?_set_ne hj]
  rw [e2, ← hg.eq] at W3
  exact h σ G H W3
/-- own list [i] = e -/
theorem s_setI [fam : Fam (Us X) P w K mg base k] (h : DW (Us X) K B Γ O e rc fun y O1 => DW (Us X) K B Γ O1 o rAdr fun q O2 => DW (Us X) K B Γ O2 i rInt fun n O3 => ∃ xs f, OwnAt O3 q (oLst rc) xs f ∧ (0 ≤ n ∧ n < (xs.length : Int)) ∧ DS X K B Γ (f ⟨q, oLst rc, xs.set n.toNat y⟩) rest D)
    (hs : swapsWithSole [.Subscript o i tpos] e pos.line X.env = pure false := by rfl) (hw : swappedStores [.Subscript o i tpos] e X.env = pure none := by rfl)
    (h1 : (assignEach [.Subscript o i tpos] X.env).map (·.2) = [assign (.Subscript o i tpos) X.env] := by rfl)
    (ha : ∀ v, assign (.Subscript o i tpos) X.env v = (do
      let ov ← holding [v] (eval o X.env)
      let iv ← holding [v, ov] (eval i X.env)
      standAt tpos
      holding [v, ov, iv] (setItem ov iv v)
      release [v, ov, iv] []) := by intro _; rfl) : DS X K B Γ O (.Assign [.Subscript o i tpos] e pos :: rest) D := by
  intro σ G H W
  refine WSs.cons (ps_asg (te := WE (Us X) e) (WE.pe (F := Us X) ()) (pg_sub (WE.pe (F := Us X) ()) (WE.pe (F := Us X) ()) set_list ha) hs hw h1) ?_
  refine h σ G H W _ fun y O1 v G1 H1 k1 W1 e1 r1 => ?_
  refine k1 σ G1 H1 W1 _ fun q O2 u G2 H2 k2 W2 e2 r2 => ?_
  refine k2 σ G2 H2 W2 _ fun n O3 z G3 H3 ⟨xs, f, hO, hn, kk⟩ W3 e3 r3 => ?_
  obtain ⟨ob, h2, ws, h3, h4⟩ := W3.ownO hO
  subst h3
  refine ⟨q, ws, n, n.toNat, r2, r3, h2, atI_ok hn.1 (by rw [h4.length]; exact hn.2), ?_⟩
  exact kk σ G3 _ (W3.mutO (h := hO) (r' := oLst rc) (x' := xs.set n.toNat y) ⟨_, rfl, h4.set (rc.mono (e2.trans e3) r1) n.toNat⟩)
end
/-! ### a parameter that is an own object, with what it holds -/
/-! ### promises that keep one own object and hand out others -/
section
variable {K : Fg} {B : Bs} {Γ : Gm} {O : List Own} {α β γ : Type} {ra : RpF α} {rb : Rp β} {pre : α → Prop} {T : List Addr}
/-- one own object kept, a new one handed out -/
abbrev sp1N {δ : Type} (K : Fg) (T : List Addr) (ra : RpF α) (pre : α → Prop) (own : α → Own) (r' : Ow δ) (post : α → δ → Prop) : Sp := spM K T ra pre (fun x => [own x]) rAdr fun x q O' => ∃ d, post x d ∧ O' = [⟨q, r', d⟩, own x]
end
theorem s_sub {X : Cx} {K : Fg} {B : Bs} {Γ : Gm} {O O' : List Own} {D : Ends} {rest : List Stmt} (hs : List.Sublist O' O) (h : DS X K B Γ O' rest D) : DS X K B Γ O rest D := s_own h (fun w hw => hs.subset hw) fun z => z.sublist (hs.map _)
theorem s_perm {X : Cx} {K : Fg} {B : Bs} {Γ : Gm} {O O' : List Own} {D : Ends} {rest : List Stmt} (hs : O'.Perm O) (h : DS X K B Γ O' rest D) : DS X K B Γ O rest D := s_own h (fun w hw => hs.mem_iff.mp hw) fun z => ((hs.map (·.a)).nodup_iff).mpr z
end Sk
set_option Elab.async false
set_option linter.all false
set_option maxRecDepth 100000
set_option maxHeartbeats 4100000
/-! Sk11: objects of classes: attributes, making, methods. -/
namespace Sk
open PySem L2 Evl
/-! ### objects -/
def rIns {α : Type} (C : Addr) (ns : List Str) (f : RpF α) : Rp α := ⟨fun K G v x => ∃ a dx vs, v = .ref a ∧ G a = some (.ins C dx (ns.zip vs)) ∧ f.rep K G vs x ∧ vs.length = ns.length,
  fun e ⟨a, dx, vs, h1, h2, h3, h4⟩ => ⟨a, dx, vs, h1, e _ _ h2, f.mono e h3, h4⟩⟩
def oIns {α : Type} (C : Addr) (ns : List Str) (f : RpF α) : Ow α := ⟨fun K G o x => ∃ dx vs, o = .ins C dx (ns.zip vs) ∧ f.rep K G vs x ∧ vs.length = ns.length,
  fun e ⟨dx, vs, h1, h2, h3⟩ => ⟨dx, vs, h1, f.mono e h2, h3⟩⟩
/-- one more value behind -/
def fApp {α β : Type} (f : RpF α) (r : Rp β) : RpF (α × β) := ⟨fun K G vs x => ∃ ws v, vs = ws ++ [v] ∧ f.rep K G ws x.1 ∧ r.rep K G v x.2, fun e ⟨ws, v, h1, h2, h3⟩ => ⟨ws, v, h1, f.mono e h2, r.mono e h3⟩⟩
instance lenApp {α β : Type} {f : RpF α} {r : Rp β} {n : Nat} [h : Len f n] : Len (fApp f r) (n + 1) := ⟨fun ⟨ws, v, h1, h2, _⟩ => by rw [h1, List.length_append, h.len h2]; rfl⟩
section
variable {α β γ δ : Type}
/-- what is an object of the class at C -/
class InsR {α : Type} (O : List Own) (ra : Rp α) (x : α) (C : outParam Addr) (ns : outParam (List Str)) {β : outParam Type} (f : outParam (RpF β)) (y : outParam β) : Prop where
  get : ∀ {K : Fg} {B : Bs} {Γ : Gm} {σ : St} {G H : Hp} {v : V}, Ws K B Γ O σ G H → ra.rep K G v x → ∃ a dx vs, v = .ref a ∧ H a = some (.ins C dx (ns.zip vs)) ∧ f.rep K G vs y ∧ vs.length = ns.length
instance insP {O : List Own} {C : Addr} {ns : List Str} {f : RpF β} {y : β} : InsR O (rIns C ns f) y C ns f y := ⟨fun W ⟨a, dx, vs, h1, h2, h3, h4⟩ => ⟨a, dx, vs, h1, W.sub _ _ h2, h3, h4⟩⟩
instance insO {O : List Own} {C : Addr} {ns : List Str} {f : RpF β} {q : Addr} {y : β} {g : Own → List Own} [h : OwnAt O q (oIns C ns f) y g] : InsR O rAdr q C ns f y := ⟨fun W e => by
  obtain ⟨o, h1, dx, vs, h2, h3, h4⟩ := W.ownO h
  subst h2
  exact ⟨q, dx, vs, e, h1, h3, h4⟩⟩
/-- the class, its attributes' names -/
structure Kl (K : Fg) (C : Addr) (ns : List Str) : Prop where
  c : Cls K C
  na : ∀ f ∈ ns, NoAttr K C f
theorem zip_look {key : Str} : ∀ {ns : List Str} {vs : List V} {i : Nat}, ns.Nodup → ns[i]? = some key → (ns.zip vs).lookup key = vs[i]?
  | [], vs, i, _, e => by simp at e
  | n :: ns, [], i, _, _ => by simp
  | n :: ns, v :: vs, 0, _, e => by
    have e' : n = key := by simpa using e
    subst e'
    simp [List.zip_cons_cons, List.lookup]
  | n :: ns, v :: vs, i + 1, h, e => by
    have e' : ns[i]? = some key := by simpa using e
    have ne : ¬ key = n := fun z => (List.nodup_cons.mp h).1 (z ▸ List.mem_of_getElem? e')
    have eb : (key == n) = false := by simpa using ne
    rw [List.zip_cons_cons, List.lookup_cons, eb, zip_look (List.nodup_cons.mp h).2 e']
    simp
theorem zip_none {key : Str} : ∀ {ns : List Str} {vs : List V}, key ∉ ns → (ns.zip vs).lookup key = none
  | [], vs, _ => by simp
  | n :: ns, [], _ => by simp
  | n :: ns, v :: vs, h => by
    have ne : ¬ key = n := fun z => h (z ▸ List.mem_cons_self)
    have eb : (key == n) = false := by simpa using ne
    rw [List.zip_cons_cons, List.lookup_cons, eb, zip_none (fun z => h (List.mem_cons_of_mem _ z))]
theorem zip_putF_new {key : Str} {y : V} : ∀ {ns : List Str} {vs : List V}, key ∉ ns → vs.length = ns.length → putF key y (ns.zip vs) = (ns ++ [key]).zip (vs ++ [y])
  | [], [], _, _ => rfl
  | [], _ :: _, _, h => by simp at h
  | n :: ns, [], _, h => by simp at h
  | n :: ns, v :: vs, h, hl => by
    have ne : ¬ n = key := fun z => h (z ▸ List.mem_cons_self)
    show (if n = key then _ else (n, v) :: putF key y (ns.zip vs)) = (n, v) :: (ns ++ [key]).zip (vs ++ [y])
    rw [if_neg ne, zip_putF_new (fun z => h (List.mem_cons_of_mem _ z)) (by simpa using hl)]
/-! the i-th of values with one more behind -/
instance (priority := high) fatL {f : RpF α} {r : Rp β} {n : Nat} [h : Len f n] : FAt (fApp f r) n r (fun x => x.2) := ⟨fun ⟨ws, v, h1, h2, h3⟩ => ⟨v, by rw [h1, ← h.len h2]; simp, h3⟩⟩
instance (priority := low) fatI {f : RpF α} {r : Rp β} {i : Nat} {r' : Rp γ} {g : α → γ} [h : FAt f i r' g] : FAt (fApp f r) i r' (fun x => g x.1) := ⟨fun ⟨ws, v, h1, h2, _⟩ => by
  obtain ⟨u, h3, h4⟩ := h.get h2
  exact ⟨u, by rw [h1, List.getElem?_append_left (List.getElem?_eq_some_iff.mp h3).1]; exact h3, h4⟩⟩
variable {ι : Type} {F : ι → Cx} {K : Fg} {B : Bs} {Γ : Gm} {O : List Own} {ra : Rp α} {rb : Rp β} {rc : Rp γ} {e o : Expr} {es : List Expr} {pos p apos pos2 : Pos} {n : Str} {C : Addr} {ns : List Str} {f : RpF δ}
variable {P : Program} {w : World} {mg : Str → Option Value} {base : Heap} {k : Nat}
/-- the value at the i-th place -/
class FV {α : Type} (f : RpF α) (y : α) (i : Nat) {β : outParam Type} (r : outParam (Rp β)) (z : outParam β) : Prop where
  get : ∀ {K : Fg} {G : Hp} {vs : List V}, f.rep K G vs y → ∃ v, vs[i]? = some v ∧ r.rep K G v z
instance fvOf {f : RpF δ} {y : δ} {i : Nat} {r : Rp β} {g : δ → β} [h : FAt f i r g] : FV f y i r (g y) := ⟨fun q => h.get q⟩
/-- the same, the object a name's -/
theorem d_fldV [fam : Fam F P w K mg base k] {key : Str} (kl : Kl K C ns) (iv i : Nat) {x : α} {y : δ} {r : Rp β} {z : β} [hA : At Γ iv ra x] [hI : InsR O ra x C ns f y] [hf : FV f y i r z] {Φ : β → List Own → Prop} (hk : ns[i]? = some key) (hn : ns.Nodup) (kk : Φ z O)
    (hN : ∀ j, (F j).N[iv]? = some n := by intro _; rfl) (hv : ∀ j, Vis (F j).env.scope n := by intro _; first | exact Or.inl rfl | exact Or.inr (Or.inl rfl) | exact Or.inr (Or.inr rfl)) (hd : (n == ("__debug__" : Str)) = false := by decide)
    (hcd : (n == ("__classdict__" : Str)) = false := by decide) (hb : ∀ j, attributeBase (.Name n pos2) key (F j).env (eval (.Name n pos2) (F j).env) = eval (.Name n pos2) (F j).env := by intro _; rfl) : DW F K B Γ O (.Attribute (.Name n pos2) key pos) r Φ := by
  intro σ G H W Q q
  refine ⟨tFld K (WE F (.Name n pos2)) key, fun j => by rw [← fam.ka j]; exact pe_fld (WE.pe j) (hb j), ?_⟩
  refine d_var (F := F) iv (Φ := fun x' O1 => x' = x ∧ O1 = O) ⟨rfl, rfl⟩ hN hv hd hcd σ G H W _ fun x' O1 v G1 H1 ⟨e1, e2⟩ W1 ex r1 => ?_
  subst e1 e2
  obtain ⟨a, dx, vs, h1, h2, h3, h4⟩ := hI.get W1 r1
  obtain ⟨u, h5, h6⟩ := hf.get h3
  exact ⟨a, C, dx, _, u, h1, h2, kl.c, kl.na key (List.mem_of_getElem? hk), by rw [zip_look hn hk]; exact h5, q _ O1 u G1 H1 kk W1 ex h6⟩
/-! ### methods -/
/-- a method of the class at C -/
structure Md (K : Fg) (C : Addr) (m qual : Str) (st : Stmt) (ps : List Str) where
  f : Addr
  fd : FuncData
  F : Fun K m qual st f fd
  me : Meth K C m f
  b : Binds K fd ps []
theorem d_meth [fam : Fam F P w K mg base k] {j : Nat} {m qual : Str} {st : Stmt} {ps : List Str} {sp : Sp} (kl : Kl K C ns) (D : Md K C m qual st ps) (G : FnOk P w K mg base CX0 j D.f D.fd ps sp) {g : RpF β} {pl : ι → Sem Bool} {Φ : γ → List Own → Prop}
    (h : DW F K B Γ O o ra fun x O1 => ∃ y, InsR O1 ra x C ns f y ∧ DA F K B Γ O1 (e :: es) g fun z O2 => SW K B Γ O2 sp [] (fCons ra g) (x, z) rc Φ) (hm : m ∉ ns := by decide +kernel) (hj : j ≤ k := by decide)
    (he : ∀ i, starEach (e :: es) (F i).env = (false, eval e (F i).env) :: starEach es (F i).env := by intro _; rfl) (hpl : ∀ i, (backTo pos (starEach es (F i).env)).any (·.1) = false := by intro _; rfl)
    (ht : ∀ i, eval (.Call (.Attribute o m apos) (e :: es) [] pos) (F i).env = (do
      let ov ← eval o (F i).env
      standAt apos.atName
      let (f, first) ← holding [ov] (getMethod ov m (pl i))
      callWith pos f first (backTo pos (starEach (e :: es) (F i).env)) (backToKw pos (keywordEach [] (F i).env))) := by intro _; rfl) :
    DW F K B Γ O (.Call (.Attribute o m apos) (e :: es) [] pos) rc Φ := by
  intro σ G' H W Q q
  refine ⟨tMeth C m sp [] E0 (WE F o) (WA F (e :: es)), fun i => ?_, ?_⟩
  · have h1 := fam.pr i
    have h2 := fam.wd i
    have h3 := fam.ka i
    have h4 := fam.mg i
    have h5 := fam.bs i
    have G2 : FnOk (F i).prog (F i).w (F i).K (F i).mg (F i).base CX0 j D.f D.fd ps sp := by rw [h1, h2, h3, h4, h5]; exact G
    have c2 : Cls (F i).K C := by rw [h3]; exact kl.c
    have m2 : Meth (F i).K C m D.f := by rw [h3]; exact D.me
    have b2 : Binds (F i).K D.fd ps [] := by rw [h3]; exact D.b
    exact pe_meth (pl := pl i) (WE.pe i) c2 m2 G2 ((fam.rm i).mono hj) b2 .nil pass0 (WA.pa i) (he i) (hpl i) (ht i)
  · refine h σ G' H W _ fun x O1 v G1 H1 ⟨y, hI, k1⟩ W1 e1 r1 => ?_
    obtain ⟨a, dx, vs, h1, h2, h3, h4⟩ := hI.get W1 r1
    refine ⟨a, dx, _, h1, h2, zip_none hm, ?_⟩
    refine k1 σ G1 H1 W1 _ fun z O2 us G2 H2 k2 W2 e2 r2 => ?_
    have z2 := k2 σ G2 H2 (v :: us) W2 ⟨v, us, rfl, ra.mono e2 r1, r2⟩ Q fun y O' u G3 H3 k3 W3 e3 r3 => q y O' u G3 H3 k3 W3 ((e1.trans e2).trans e3) r3
    rw [List.append_nil] at z2 ⊢
    exact z2
theorem d_meth0 [fam : Fam F P w K mg base k] {j : Nat} {m qual : Str} {st : Stmt} {ps : List Str} {sp : Sp} (kl : Kl K C ns) (D : Md K C m qual st ps) (G : FnOk P w K mg base CX0 j D.f D.fd ps sp) {pl : ι → Sem Bool} {Φ : γ → List Own → Prop}
    (h : DW F K B Γ O o ra fun x O1 => ∃ y, InsR O1 ra x C ns f y ∧ SW K B Γ O1 sp [] (fOne ra) x rc Φ) (hm : m ∉ ns := by decide +kernel) (hj : j ≤ k := by decide)
    (ht : ∀ i, eval (.Call (.Attribute o m apos) [] [] pos) (F i).env = (do
      let ov ← eval o (F i).env
      standAt apos.atName
      let (f, first) ← holding [ov] (getMethod ov m (pl i))
      callWith pos f first (backTo pos (starEach [] (F i).env)) (backToKw pos (keywordEach [] (F i).env))) := by intro _; rfl) :
    DW F K B Γ O (.Call (.Attribute o m apos) [] [] pos) rc Φ := by
  intro σ G' H W Q q
  refine ⟨tMeth C m sp [] E0 (WE F o) tNil, fun i => ?_, ?_⟩
  · have h1 := fam.pr i
    have h2 := fam.wd i
    have h3 := fam.ka i
    have h4 := fam.mg i
    have h5 := fam.bs i
    have G2 : FnOk (F i).prog (F i).w (F i).K (F i).mg (F i).base CX0 j D.f D.fd ps sp := by rw [h1, h2, h3, h4, h5]; exact G
    have c2 : Cls (F i).K C := by rw [h3]; exact kl.c
    have m2 : Meth (F i).K C m D.f := by rw [h3]; exact D.me
    have b2 : Binds (F i).K D.fd ps [] := by rw [h3]; exact D.b
    exact pe_meth0 (pl := pl i) (WE.pe i) c2 m2 G2 ((fam.rm i).mono hj) b2 .nil pass0 (ht i)
  · refine h σ G' H W _ fun x O1 v G1 H1 ⟨y, hI, k1⟩ W1 e1 r1 => ?_
    obtain ⟨a, dx, vs, h1, h2, h3, h4⟩ := hI.get W1 r1
    refine ⟨a, dx, _, h1, h2, zip_none hm, ?_⟩
    exact k1 σ G1 H1 [v] W1 ⟨v, rfl, r1⟩ Q fun y O' u G3 H3 k3 W3 e3 r3 => q y O' u G3 H3 k3 W3 (e1.trans e3) r3
/-! ### making -/
/-- a class that is made by its name -/
structure Ck (K : Fg) (mg : Str → Option Value) (n : Str) (C : Addr) (qual : Str) (st : Stmt) (ps : List Str) where
  f : Addr
  fd : FuncData
  F : Fun K "__init__" qual st f fd
  m : mg n = some (.ref C)
  mkr : Mk K C f
  b : Binds K fd ps []
abbrev oNew (C : Addr) : Ow Unit := oIns C [] fNil
theorem Ws.hid {σ : St} {G H : Hp} {dx : Addr} {o : HO} (W : Ws K B Γ O σ G H) (hp : H dx = none) : Ws K B Γ O σ G (upd H dx o) := W.step (Stp.newOwn W.sub hp)
theorem d_make [fam : Fam F P w K mg base k] {j : Nat} {qual : Str} {st : Stmt} {ps : List Str} {sp : Sp} (D : Ck K mg n C qual st ps) (G : FnOk P w K mg base CX0 j D.f D.fd ps sp) {g : RpF β} {Φ : Addr → List Own → Prop}
    (h : DA F K B Γ O (e :: es) g fun z O1 => ∀ q, q ∉ B.M → SW K B Γ (⟨q, oNew C, ()⟩ :: O1) sp [] (fCons rAdr g) (q, z) rNon fun _ O' => Φ q O') (hj : j + 1 ≤ k := by decide)
    (hdb : (n == ("__debug__" : Str)) = false := by decide) (hg : ∀ i, Gl (F i) n := by intro _; rfl)
    (he : ∀ i, starEach (e :: es) (F i).env = (false, eval e (F i).env) :: starEach es (F i).env := by intro _; rfl) (hpl : ∀ i, (backTo pos (starEach es (F i).env)).any (·.1) = false := by intro _; rfl) :
    DW F K B Γ O (.Call (.Name n p) (e :: es) [] pos) rAdr Φ := by
  intro σ G' H W Q q
  refine ⟨tMake C sp [] E0 (WA F (e :: es)), fun i => ?_, ?_⟩
  · have h1 := fam.pr i
    have h2 := fam.wd i
    have h3 := fam.ka i
    have h4 := fam.mg i
    have h5 := fam.bs i
    have G2 : FnOk (F i).prog (F i).w (F i).K (F i).mg (F i).base CX0 j D.f D.fd ps sp := by rw [h1, h2, h3, h4, h5]; exact G
    have m2 : (F i).mg n = some (.ref C) := by rw [h4]; exact D.m
    have k2 : Mk (F i).K C D.f := by rw [h3]; exact D.mkr
    have b2 : Binds (F i).K D.fd ps [] := by rw [h3]; exact D.b
    exact pe_make k2 G2 ((fam.rm i).mono hj) (hg i) m2 b2 .nil pass0 (WA.pa i) hdb (he i) (hpl i)
  · refine h σ G' H W _ fun z O1 us G1 H1 k1 W1 e1 r1 => ?_
    intro x dx hx hdx hne
    have W2 := W1.hid (o := .own x) hdx
    have hx2 : upd H1 dx (.own x) x = none := by rw [upd_ne hne.symm]; exact hx
    have W3 := W2.newOwn hx2 (r := oNew C) (x := ()) (o := .ins C dx []) ⟨dx, [], rfl, rfl, rfl⟩
    have z2 := k1 x (W1.notM hx) σ G1 _ (.ref x :: us) W3 ⟨.ref x, us, rfl, rfl, r1⟩ (fun v H2 => v = .non ∧ Q (.ref x) H2) fun y O' u G3 H3 k3 W4 e3 r3 => ⟨r3, q x O' (.ref x) G3 H3 k3 W4 (e1.trans e3) rfl⟩
    rw [List.append_nil] at z2 ⊢
    exact z2
end
/-! ### attributes are written -/
section
variable {X : Cx} {K : Fg} {B : Bs} {Γ Γ' : Gm} {O O' : List Own} {α β γ δ : Type} {ra : Rp α} {rb : Rp β} {rc : Rp γ} {D : Ends} {rest : List Stmt} {e o i : Expr} {pos tpos : Pos} {C : Addr} {ns : List Str} {f : RpF δ} {key : Str}
variable {P : Program} {w : World} {mg : Str → Option Value} {base : Heap} {k : Nat}
/-- o.key = e, an own object that has not got it yet -/
theorem s_fldN [fam : Fam (Us X) P w K mg base k] (kl : Kl K C (ns ++ [key])) {r : Rp β}
    (h : DW (Us X) K B Γ O e r fun y O1 => DW (Us X) K B Γ O1 o rAdr fun q O2 => ∃ x u, OwnAt O2 q (oIns C ns f) x u ∧ DS X K B Γ (u ⟨q, oIns C (ns ++ [key]) (fApp f r), (x, y)⟩) rest D) (hn : key ∉ ns := by decide +kernel) (hz : ns.length < 1000 := by decide)
    (hs : swapsWith e (some (.Attribute o key tpos)) pos.line X.env = pure false := by rfl) : DS X K B Γ O (.Assign [.Attribute o key tpos] e pos :: rest) D := by
  intro σ G H W
  refine WSs.cons (ps_fld (tv := WE (Us X) e) (ta := WE (Us X) o) (WE.pe (F := Us X) ()) (WE.pe (F := Us X) ()) hs) ?_
  refine h σ G H W _ fun y O1 v G1 H1 k1 W1 e1 r1 => ?_
  refine k1 σ G1 H1 W1 _ fun q O2 u G2 H2 ⟨x, fo, hO, kk⟩ W2 e2 r2 => ?_
  obtain ⟨ob, h1, dx, vs, h2, h3, h4⟩ := W2.ownO hO
  subst h2
  have cl : Cls X.K C := by rw [fam.ka ()]; exact kl.c
  have na : NoAttr X.K C key := by rw [fam.ka ()]; exact kl.na key (by simp)
  refine ⟨q, C, dx, _, r2, h1, cl, na, ?_, ?_⟩
  · rw [List.length_zip, h4, Nat.min_self]
    exact hz
  · exact kk σ G2 _ (W2.mutO (h := hO) (r' := oIns C (ns ++ [key]) (fApp f r)) (x' := (x, y)) ⟨dx, vs ++ [v], by rw [zip_putF_new hn h4], ⟨vs, v, rfl, h3, r.mono e2 r1⟩, by rw [List.length_append, List.length_append, h4]; rfl⟩)
/-- an own list of an own object is done: the object holds it as a list -/
theorem s_frzIn {q p : Addr} {r : Rp β} {xs : List β} {wo : Ow α} {x : α} {wo' : Ow γ} {x' : γ} {u : Own → List Own} (hM : q ∉ B.M) (hO : OwnAt O p wo x u) (hc : ∀ {K : Fg} {G : Hp} {o : HO}, (rLst r).rep K G (.ref q) xs → wo.rep K G o x → wo'.rep K G o x')
    (h : DS X K B Γ (u ⟨p, wo', x'⟩) rest D) : DS X K B Γ (⟨q, oLst r, xs⟩ :: O) rest D := fun σ G H W => by
  obtain ⟨o, ⟨ws, h1, h2⟩, W2, e⟩ := W.frz hM
  subst h1
  have hq : (rLst r).rep K (upd G q (.lst ws)) (.ref q) xs := ⟨q, ws, rfl, upd_same, h2.mono fun _ _ z => r.mono e z⟩
  obtain ⟨ob, h3, h4⟩ := W2.ownO hO
  have W3 := W2.mutO (h := hO) (o := ob) (r' := wo') (x' := x') (hc hq h4)
  have e2 : upd H p ob = H := by
    funext b
    by_cases hb : b = p
    · rw [hb, upd_same, h3]
    · rw [upd_ne hb]
  rw [e2] at W3
  exact h σ _ H W3
end
end Sk
set_option Elab.async false
set_option linter.all false
set_option maxRecDepth 100000
set_option maxHeartbeats 4100000
/-! Sk12: dicts by any keys, texts, zip and enumerate, things that are done. -/
namespace Sk
open PySem L2 Evl
/-! ### tables -/
section
variable {κ : Type} [DecidableEq κ] {α : Type}
def valX (xs : List (κ × α)) (k : κ) : Option α := (xs.find? fun p => decide (p.1 = k)).map (·.2)
def putX (xs : List (κ × α)) (k : κ) (x : α) : List (κ × α) := if (xs.any fun p => decide (p.1 = k)) = true then xs.map (fun p => if p.1 = k then (p.1, x) else p) else xs ++ [(k, x)]
def DicR (p : V → α → Prop) : List (κ × V) → List (κ × α) → Prop
  | [], [] => True
  | u :: r, x :: s => u.1 = x.1 ∧ p u.2 x.2 ∧ DicR p r s
  | _, _ => False
theorem DicR.mono {p q : V → α → Prop} (h : ∀ v x, p v x → q v x) : ∀ {kvs : List (κ × V)} {xs : List (κ × α)}, DicR p kvs xs → DicR q kvs xs
  | [], [], _ => trivial
  | _ :: _, _ :: _, ⟨a, b, c⟩ => ⟨a, h _ _ b, DicR.mono h c⟩
  | [], _ :: _, z => z
  | _ :: _, [], z => z
theorem DicR.length {p : V → α → Prop} : ∀ {kvs : List (κ × V)} {xs : List (κ × α)}, DicR p kvs xs → kvs.length = xs.length
  | [], [], _ => rfl
  | _ :: r, _ :: s, ⟨_, _, c⟩ => by rw [List.length_cons, List.length_cons, DicR.length c]
  | [], _ :: _, z => z.elim
  | _ :: _, [], z => z.elim
theorem DicR.val {p : V → α → Prop} (k : κ) : ∀ {kvs : List (κ × V)} {xs : List (κ × α)}, DicR p kvs xs → match valX xs k with
    | some x => ∃ v, valV kvs k = some v ∧ p v x
    | none => valV kvs k = none
  | [], [], _ => rfl
  | u :: r, x :: s, ⟨a, b, c⟩ => by
    by_cases h : x.1 = k
    · have e : valX (x :: s) k = some x.2 := by simp [valX, h]
      rw [e]
      exact ⟨u.2, valV_pos (a.trans h), b⟩
    · have e : valX (x :: s) k = valX s k := by simp [valX, h]
      rw [e]
      have ih := DicR.val k c
      have e2 : valV (u :: r) k = valV r k := valV_neg (fun z => h (a.symm.trans z))
      rw [e2]
      exact ih
  | [], _ :: _, z => z.elim
  | _ :: _, [], z => z.elim
theorem DicR.val_some {p : V → α → Prop} {k : κ} {kvs : List (κ × V)} {xs : List (κ × α)} {x : α} (h : DicR p kvs xs) (e : valX xs k = some x) : ∃ v, valV kvs k = some v ∧ p v x := by
  have := h.val k
  rw [e] at this
  exact this
theorem DicR.val_none {p : V → α → Prop} {k : κ} {kvs : List (κ × V)} {xs : List (κ × α)} (h : DicR p kvs xs) (e : valX xs k = none) : valV kvs k = none := by
  have := h.val k
  rw [e] at this
  exact this
theorem DicR.isSome {p : V → α → Prop} {k : κ} {kvs : List (κ × V)} {xs : List (κ × α)} (h : DicR p kvs xs) : (valV kvs k).isSome = (valX xs k).isSome := by
  cases e : valX xs k with
  | none =>
    rw [h.val_none e]
    rfl
  | some x =>
    obtain ⟨v, e2, _⟩ := h.val_some e
    rw [e2]
    rfl
theorem DicR.any {p : V → α → Prop} {k : κ} : ∀ {kvs : List (κ × V)} {xs : List (κ × α)}, DicR p kvs xs → (kvs.any fun u => decide (u.1 = k)) = (xs.any fun u => decide (u.1 = k))
  | [], [], _ => rfl
  | u :: r, x :: s, ⟨a, _, c⟩ => by rw [List.any_cons, List.any_cons, DicR.any c, a]
  | [], _ :: _, z => z.elim
  | _ :: _, [], z => z.elim
theorem DicR.append {p : V → α → Prop} : ∀ {kvs : List (κ × V)} {xs : List (κ × α)} {kvs' : List (κ × V)} {xs' : List (κ × α)}, DicR p kvs xs → DicR p kvs' xs' → DicR p (kvs ++ kvs') (xs ++ xs')
  | [], [], _, _, _, h => h
  | _ :: _, _ :: _, _, _, ⟨a, b, c⟩, h => ⟨a, b, DicR.append c h⟩
  | [], _ :: _, _, _, z, _ => z.elim
  | _ :: _, [], _, _, z, _ => z.elim
theorem DicR.over {p : V → α → Prop} {k : κ} {v : V} {x : α} (hp : p v x) : ∀ {kvs : List (κ × V)} {xs : List (κ × α)}, DicR p kvs xs → DicR p (kvs.map fun u => if u.1 = k then (u.1, v) else u) (xs.map fun u => if u.1 = k then (u.1, x) else u)
  | [], [], _ => trivial
  | u :: r, y :: s, ⟨a, b, c⟩ => by
    rw [List.map_cons, List.map_cons]
    refine ⟨?_, ?_, DicR.over hp c⟩
    · by_cases h : y.1 = k
      · rw [if_pos h, if_pos (a.trans h)]
        exact a
      · rw [if_neg h, if_neg (fun z => h (a.symm.trans z))]
        exact a
    · by_cases h : y.1 = k
      · rw [if_pos h, if_pos (a.trans h)]
        exact hp
      · rw [if_neg h, if_neg (fun z => h (a.symm.trans z))]
        exact b
  | [], _ :: _, z => z.elim
  | _ :: _, [], z => z.elim
theorem DicR.put {p : V → α → Prop} {k : κ} {v : V} {x : α} {kvs : List (κ × V)} {xs : List (κ × α)} (h : DicR p kvs xs) (hp : p v x) : DicR p (putK kvs k v) (putX xs k x) := by
  unfold putK putX
  rw [h.any]
  split
  · exact h.over hp
  · exact h.append ⟨rfl, hp, trivial⟩
end
def rDk {α : Type} (r : Rp α) : Rp (List (Key × α)) := ⟨fun K G v xs => ∃ a kvs, v = .ref a ∧ G a = some (.dK kvs) ∧ DicR (r.rep K G) kvs xs, fun e ⟨a, kvs, h1, h2, h3⟩ => ⟨a, kvs, h1, e _ _ h2, h3.mono fun _ _ z => r.mono e z⟩⟩
def rDt {α : Type} (r : Rp α) : Rp (List (List Key × α)) := ⟨fun K G v xs => ∃ a kvs, v = .ref a ∧ G a = some (.dT kvs) ∧ DicR (r.rep K G) kvs xs, fun e ⟨a, kvs, h1, h2, h3⟩ => ⟨a, kvs, h1, e _ _ h2, h3.mono fun _ _ z => r.mono e z⟩⟩
def oDk {α : Type} (r : Rp α) : Ow (List (Key × α)) := ⟨fun K G o xs => ∃ kvs, o = .dK kvs ∧ DicR (r.rep K G) kvs xs, fun e ⟨kvs, h1, h2⟩ => ⟨kvs, h1, h2.mono fun _ _ z => r.mono e z⟩⟩
def oDt {α : Type} (r : Rp α) : Ow (List (List Key × α)) := ⟨fun K G o xs => ∃ kvs, o = .dT kvs ∧ DicR (r.rep K G) kvs xs, fun e ⟨kvs, h1, h2⟩ => ⟨kvs, h1, h2.mono fun _ _ z => r.mono e z⟩⟩
/-- a key; a tuple of keys -/
def rKey : Rp Key := ⟨fun _ _ v k => v = kV k, fun _ h => h⟩
def rTk : Rp (List Key) := ⟨fun _ G v k => ∃ a, v = .ref a ∧ G a = some (.tup (k.map kV)), fun e ⟨a, h1, h2⟩ => ⟨a, h1, e _ _ h2⟩⟩
class DkR {α : Type} (O : List Own) (ra : Rp α) (x : α) {β : outParam Type} (r : outParam (Rp β)) (xs : outParam (List (Key × β))) : Prop where
  get : ∀ {K : Fg} {B : Bs} {Γ : Gm} {σ : St} {G H : Hp} {v : V}, Ws K B Γ O σ G H → ra.rep K G v x → ∃ a kvs, v = .ref a ∧ H a = some (.dK kvs) ∧ DicR (r.rep K G) kvs xs
class DtR {α : Type} (O : List Own) (ra : Rp α) (x : α) {β : outParam Type} (r : outParam (Rp β)) (xs : outParam (List (List Key × β))) : Prop where
  get : ∀ {K : Fg} {B : Bs} {Γ : Gm} {σ : St} {G H : Hp} {v : V}, Ws K B Γ O σ G H → ra.rep K G v x → ∃ a kvs, v = .ref a ∧ H a = some (.dT kvs) ∧ DicR (r.rep K G) kvs xs
section
variable {α β γ δ : Type}
instance dkP {O : List Own} {r : Rp β} {xs : List (Key × β)} : DkR O (rDk r) xs r xs := ⟨fun W ⟨a, kvs, h1, h2, h3⟩ => ⟨a, kvs, h1, W.sub _ _ h2, h3⟩⟩
instance dkO {O : List Own} {q : Addr} {r : Rp β} {xs : List (Key × β)} {f : Own → List Own} [h : OwnAt O q (oDk r) xs f] : DkR O rAdr q r xs := ⟨fun W e => by
  obtain ⟨o, h1, kvs, h2, h3⟩ := W.ownO h
  subst h2
  exact ⟨q, kvs, e, h1, h3⟩⟩
instance dtP {O : List Own} {r : Rp β} {xs : List (List Key × β)} : DtR O (rDt r) xs r xs := ⟨fun W ⟨a, kvs, h1, h2, h3⟩ => ⟨a, kvs, h1, W.sub _ _ h2, h3⟩⟩
instance dtO {O : List Own} {q : Addr} {r : Rp β} {xs : List (List Key × β)} {f : Own → List Own} [h : OwnAt O q (oDt r) xs f] : DtR O rAdr q r xs := ⟨fun W e => by
  obtain ⟨o, h1, kvs, h2, h3⟩ := W.ownO h
  subst h2
  exact ⟨q, kvs, e, h1, h3⟩⟩
variable {ι : Type} {F : ι → Cx} {K : Fg} {B : Bs} {Γ : Gm} {O : List Own} {ra : Rp α} {rb : Rp β} {rc : Rp γ} {e a b o i : Expr} {es : List Expr} {pos p apos pos2 : Pos} {n : Str}
variable {P : Program} {w : World} {mg : Str → Option Value} {base : Heap} {k : Nat}
theorem d_keyS {Φ : Key → List Own → Prop} (h : DW F K B Γ O e rStr fun x O1 => Φ (Sum.inr x) O1) : DW F K B Γ O e rKey Φ := fun σ G H W Q q => h σ G H W Q fun x O' v G' H' kk W' e' hv => q (Sum.inr x) O' v G' H' kk W' e' hv
theorem all2_key {K : Fg} {G : Hp} : ∀ {vs : List V} {ks : List Key}, All2 (rKey.rep K G) vs ks → vs = ks.map kV
  | [], [], _ => rfl
  | _ :: _, _ :: _, ⟨a, b⟩ => by rw [show _ = kV _ from a, all2_key b]; rfl
  | [], _ :: _, z => z.elim
  | _ :: _, [], z => z.elim
/-- a tuple of keys -/
theorem d_tupK {j : Nat} {Φ : List Key → List Own → Prop} (h : DA F K B Γ O es (fAll rKey) fun x O1 => x.length ≤ sizeLine ∧ Φ x O1) : DW F K B Γ O (.Tuple es j pos) rTk Φ := by
  intro σ G H W Q q
  refine ⟨_, fun i => pe_tup (WA.pa i), ?_⟩
  refine h σ G H W _ fun x O1 vs G1 H1 k W1 e1 r1 => ⟨by rw [All2.length r1]; exact k.1, fun p hp => ?_⟩
  have s : Stp B.T [] G1 H1 (upd G1 p (.tup vs)) (upd H1 p (.tup vs)) := Stp.new W1.sub hp
  exact q x O1 _ _ _ k.2 (W1.step s) (e1.trans s.g) ⟨p, rfl, by rw [upd_same, all2_key r1]⟩
/-- o[i], o a dict -/
theorem d_dk [fam : Fam F P w K mg base k] {Φ : γ → List Own → Prop} (h : DW F K B Γ O o ra fun x O1 => DW F K B Γ O1 i rKey fun y O2 => ∃ xs z, DkR O2 ra x rc xs ∧ valX xs y = some z ∧ Φ z O2) (hs : NoSl i := by intro _ _; rfl) : DW F K B Γ O (.Subscript o i pos) rc Φ := by
  intro σ G H W Q q
  refine ⟨tDGet (WE F o) (WE F i), fun j => pe_dget (by have := (fam.rm j).units; omega) (WE.pe j) (WE.pe j) hs, ?_⟩
  refine h σ G H W _ fun x O1 v G1 H1 h1 W1 e1 r1 => ?_
  refine h1 σ G1 H1 W1 _ fun y O2 u G2 H2 ⟨xs, z, hD, hz, kk⟩ W2 e2 r2 => ?_
  obtain ⟨c, kvs, g1, g2, g3⟩ := hD.get W2 (ra.mono e2 r1)
  obtain ⟨t, g4, g5⟩ := g3.val_some hz
  refine ⟨c, t, g1, ?_, q _ O2 t G2 H2 kk W2 (e1.trans e2) g5⟩
  have e3 := DGet.k (k := y) g2
  rw [g4] at e3
  rw [show u = kV y from r2]
  exact e3
theorem d_dt [fam : Fam F P w K mg base k] {Φ : γ → List Own → Prop} (h : DW F K B Γ O o ra fun x O1 => DW F K B Γ O1 i rTk fun y O2 => ∃ xs z, DtR O2 ra x rc xs ∧ valX xs y = some z ∧ Φ z O2) (hs : NoSl i := by intro _ _; rfl) : DW F K B Γ O (.Subscript o i pos) rc Φ := by
  intro σ G H W Q q
  refine ⟨tDGet (WE F o) (WE F i), fun j => pe_dget (by have := (fam.rm j).units; omega) (WE.pe j) (WE.pe j) hs, ?_⟩
  refine h σ G H W _ fun x O1 v G1 H1 h1 W1 e1 r1 => ?_
  refine h1 σ G1 H1 W1 _ fun y O2 u G2 H2 ⟨xs, z, hD, hz, kk⟩ W2 e2 ⟨d, r2, r3⟩ => ?_
  obtain ⟨c, kvs, g1, g2, g3⟩ := hD.get W2 (ra.mono e2 r1)
  obtain ⟨t, g4, g5⟩ := g3.val_some hz
  refine ⟨c, t, g1, ?_, q _ O2 t G2 H2 kk W2 (e1.trans e2) g5⟩
  have e3 := DGet.t (k := y) g2 (W2.sub _ _ r3)
  rw [g4] at e3
  rw [r2]
  exact e3
/-- {}: a dict of one's own -/
theorem d_dnewK {Φ : Addr → List Own → Prop} (r : Rp β) (kk : ∀ p, p ∉ B.M → Φ p (⟨p, oDk r, []⟩ :: O)) : DW F K B Γ O (.Dict [] [] pos) rAdr Φ := fun σ G H W Q q =>
  ⟨_, fun i => pe_dnewK, fun p hp => q p _ _ G _ (kk p (W.notM hp)) (W.newOwn hp (r := oDk r) (x := []) ⟨[], rfl, trivial⟩) (Ex.refl _) rfl⟩
theorem d_dnewT {Φ : Addr → List Own → Prop} (r : Rp β) (kk : ∀ p, p ∉ B.M → Φ p (⟨p, oDt r, []⟩ :: O)) : DW F K B Γ O (.Dict [] [] pos) rAdr Φ := fun σ G H W Q q =>
  ⟨_, fun i => pe_dnewT, fun p hp => q p _ _ G _ (kk p (W.notM hp)) (W.newOwn hp (r := oDt r) (x := []) ⟨[], rfl, trivial⟩) (Ex.refl _) rfl⟩
/-! ### texts -/
theorem i_str {x : Str} {j : Int} {c : Nat} {Φ : Str → List Own → Prop} (hz : x.length ≤ sizeLine) (h : atI x.cps.toList j = some c) (kk : Φ ⟨#[c]⟩ O) : IW F K B Γ O rStr rInt x j rStr Φ := fun σ G H v w W rv rw Q q =>
  ⟨rIxS, fun _ => ix_str, x, j, c, rv, rw, hz, h, q _ O _ G H kk W (Ex.refl _) rfl⟩
theorem o_addS {x y : Str} {Φ : Str → List Own → Prop} (hz : x.length + y.length ≤ sizeLine) (kk : Φ (x ++ y) O) : OW F K B Γ O (binaryOp .Add) rStr rStr x y rStr Φ := fun σ G H v w W rv rw Q q => ⟨_, fun _ => op_add_str, x, y, rv, rw, hz, q _ O _ G H kk W (Ex.refl _) rfl⟩
/-! ### zip, enumerate -/
theorem zip_get {xs : List α} {ys : List β} {j : Nat} {x : α} {y : β} (h1 : xs[j]? = some x) (h2 : ys[j]? = some y) : (xs.zip ys)[j]? = some (x, y) := List.getElem?_zip_eq_some.mpr ⟨h1, h2⟩
theorem Gives.zipL {T : List Addr} {Gb : Hp} {c d : Addr} {vs ws : List V} {xs : List α} {ys : List β} (h : SqL K Gb c vs) (r : All2 (ra.rep K Gb) vs xs) (h' : SqL K Gb d ws) (r' : All2 (rb.rep K Gb) ws ys) : Gives K T Gb (Itz K c d) (rTup (fCons ra (fOne rb))) (xs.zip ys) where
  go := fun j G H hj e1 e2 => by
    rw [List.length_zip] at hj
    have h1 : j < vs.length := by rw [r.length]; omega
    have h2 : j < ws.length := by rw [r'.length]; omega
    exact ⟨vs, ws, vs[j], ws[j], ex_l (e1.trans e2) h, ex_l (e1.trans e2) h', List.getElem?_eq_getElem h1, List.getElem?_eq_getElem h2⟩
  stop := fun G H e1 e2 => by
    refine ⟨vs, ws, ex_l (e1.trans e2) h, ex_l (e1.trans e2) h', ?_⟩
    rw [List.length_zip, r.length, r'.length]
    omega
  yld := fun j G H v H' hj e1 e2 ⟨t, x, y, h1, h2, h3, h4, h5⟩ => by
    obtain ⟨x', hx, hr⟩ := r.get (h4 vs (ex_l (e1.trans e2) h))
    obtain ⟨y', hy, hr'⟩ := r'.get (h5 ws (ex_l (e1.trans e2) h'))
    subst h3
    have s : Stp T [] G H (upd G t (.tup [x, y])) (upd H t (.tup [x, y])) := Stp.new e2 h2
    exact ⟨(x', y'), _, zip_get hx hy, s, t, [x, y], h1, SqT.of upd_same, x, [y], rfl, ra.mono (e1.trans s.g) hr, y, rfl, rb.mono (e1.trans s.g) hr'⟩
theorem Gives.zipT {T : List Addr} {Gb : Hp} {c d : Addr} {vs ws : List V} {xs : List α} {ys : List β} (h : SqT K Gb c vs) (r : All2 (ra.rep K Gb) vs xs) (h' : SqT K Gb d ws) (r' : All2 (rb.rep K Gb) ws ys) : Gives K T Gb (RZ.ItzT K c d) (rTup (fCons ra (fOne rb))) (xs.zip ys) where
  go := fun j G H hj e1 e2 => by
    rw [List.length_zip] at hj
    have h1 : j < vs.length := by rw [r.length]; omega
    have h2 : j < ws.length := by rw [r'.length]; omega
    exact ⟨vs, ws, vs[j], ws[j], ex_t (e1.trans e2) h, ex_t (e1.trans e2) h', List.getElem?_eq_getElem h1, List.getElem?_eq_getElem h2⟩
  stop := fun G H e1 e2 => by
    refine ⟨vs, ws, ex_t (e1.trans e2) h, ex_t (e1.trans e2) h', ?_⟩
    rw [List.length_zip, r.length, r'.length]
    omega
  yld := fun j G H v H' hj e1 e2 ⟨t, x, y, h1, h2, h3, h4, h5⟩ => by
    obtain ⟨x', hx, hr⟩ := r.get (h4 vs (ex_t (e1.trans e2) h))
    obtain ⟨y', hy, hr'⟩ := r'.get (h5 ws (ex_t (e1.trans e2) h'))
    subst h3
    have s : Stp T [] G H (upd G t (.tup [x, y])) (upd H t (.tup [x, y])) := Stp.new e2 h2
    exact ⟨(x', y'), _, zip_get hx hy, s, t, [x, y], h1, SqT.of upd_same, x, [y], rfl, ra.mono (e1.trans s.g) hr, y, rfl, rb.mono (e1.trans s.g) hr'⟩
/-- zip of two tuples -/
theorem w_zipT [fam : Fam F P w K mg base k] {elts : List Expr} {kk : Nat} {tpos : Pos} {Φ : List (α × β) → List Own → Prop} (hm : mg "zip" = none) (h : DW F K B Γ O a (rTpv ra) fun xs O1 => DW F K B Γ O1 b (rTpv rb) fun ys O2 => Φ (xs.zip ys) O2) (hg : ∀ i, Gl (F i) "zip" := by intro _; rfl)
    (hs : ∀ i, starEach [a, b] (F i).env = (false, eval a (F i).env) :: starEach [b] (F i).env := by intro _; rfl) (hs2 : ∀ i, starEach [b] (F i).env = (false, eval b (F i).env) :: starEach [] (F i).env := by intro _; rfl) (hpl : ∀ i, (backTo pos (starEach [b] (F i).env)).any (·.1) = false := by intro _; rfl) :
    DI F K B Γ O (.Tuple elts kk tpos) (.Call (.Name "zip" p) [a, b] [] pos) (rTup (fCons ra (fOne rb))) Φ := by
  intro σ G H W R q
  refine ⟨RZ.iZipA K (tCons (WE F a) (tCons (WE F b) tNil)), fun i => by rw [← fam.ka i]; exact RZ.pi_zipA (hg i) (by rw [fam.mg i]; exact hm) (pa_cons (WE.pe i) (pa_cons (WE.pe i) pa_nil (hs2 i)) (hs i)) (hs i) (hpl i), ?_⟩
  refine h σ G H W _ fun xs O1 v G1 H1 h1 W1 e1 ⟨c, vs, r1, r2, r3⟩ => ?_
  refine h1 σ G1 H1 W1 _ fun ys O2 u G2 H2 k2 W2 e2 ⟨d, ws, s1, s2, s3⟩ => ?_
  exact ⟨c, d, vs, ws, by rw [r1, s1], .inr ⟨ex_t (e2.trans W2.sub) r2, ex_t W2.sub s2, q _ _ O2 G2 H2 k2 (Gives.zipT (ex_t e2 r2) (r3.mono fun _ _ z => ra.mono e2 z) s2 s3) W2 (e1.trans e2)⟩⟩
theorem w_zipL [fam : Fam F P w K mg base k] {elts : List Expr} {kk : Nat} {tpos : Pos} {Φ : List (α × β) → List Own → Prop} (hm : mg "zip" = none) (h : DW F K B Γ O a (rLst ra) fun xs O1 => DW F K B Γ O1 b (rLst rb) fun ys O2 => Φ (xs.zip ys) O2) (hg : ∀ i, Gl (F i) "zip" := by intro _; rfl)
    (hs : ∀ i, starEach [a, b] (F i).env = (false, eval a (F i).env) :: starEach [b] (F i).env := by intro _; rfl) (hs2 : ∀ i, starEach [b] (F i).env = (false, eval b (F i).env) :: starEach [] (F i).env := by intro _; rfl) (hpl : ∀ i, (backTo pos (starEach [b] (F i).env)).any (·.1) = false := by intro _; rfl) :
    DI F K B Γ O (.Tuple elts kk tpos) (.Call (.Name "zip" p) [a, b] [] pos) (rTup (fCons ra (fOne rb))) Φ := by
  intro σ G H W R q
  refine ⟨RZ.iZipA K (tCons (WE F a) (tCons (WE F b) tNil)), fun i => by rw [← fam.ka i]; exact RZ.pi_zipA (hg i) (by rw [fam.mg i]; exact hm) (pa_cons (WE.pe i) (pa_cons (WE.pe i) pa_nil (hs2 i)) (hs i)) (hs i) (hpl i), ?_⟩
  refine h σ G H W _ fun xs O1 v G1 H1 h1 W1 e1 ⟨c, vs, r1, r2, r3⟩ => ?_
  refine h1 σ G1 H1 W1 _ fun ys O2 u G2 H2 k2 W2 e2 ⟨d, ws, s1, s2, s3⟩ => ?_
  exact ⟨c, d, vs, ws, by rw [r1, s1], .inl ⟨SqL.of (e2.trans W2.sub _ _ r2), SqL.of (W2.sub _ _ s2), q _ _ O2 G2 H2 k2 (Gives.zipL (SqL.of (e2 _ _ r2)) (r3.mono fun _ _ z => ra.mono e2 z) (SqL.of s2) s3) W2 (e1.trans e2)⟩⟩
end
/-! ### own things that are done -/
class Frz {α : Type} (r : Ow α) (r' : outParam (Rp α)) : Prop where
  frz : ∀ {K : Fg} {G : Hp} {a : Addr} {o : HO} {x : α}, G a = some o → r.rep K G o x → r'.rep K G (.ref a) x
section
variable {α β γ δ : Type}
instance {r : Rp β} : Frz (oLst r) (rLst r) := ⟨fun h ⟨vs, h1, h2⟩ => ⟨_, vs, rfl, by rw [h, h1], h2⟩⟩
instance {r : Rp β} : Frz (oDk r) (rDk r) := ⟨fun h ⟨vs, h1, h2⟩ => ⟨_, vs, rfl, by rw [h, h1], h2⟩⟩
instance {r : Rp β} : Frz (oDt r) (rDt r) := ⟨fun h ⟨vs, h1, h2⟩ => ⟨_, vs, rfl, by rw [h, h1], h2⟩⟩
instance {ns : List Str} {f : RpF β} : Frz (oRec ns f) (rRec ns f) := ⟨fun h ⟨vs, h1, h2⟩ => ⟨_, vs, rfl, by rw [h, h1], h2⟩⟩
instance {C : Addr} {ns : List Str} {f : RpF β} : Frz (oIns C ns f) (rIns C ns f) := ⟨fun h ⟨dx, vs, h1, h2, h3⟩ => ⟨_, dx, vs, rfl, by rw [h, h1], h2, h3⟩⟩
variable {X : Cx} {K : Fg} {B : Bs} {Γ : Gm} {O : List Own} {r : Ow α} {r' : Rp α} {D : Ends} {rest : List Stmt} {e o i : Expr} {pos tpos : Pos}
variable {P : Program} {w : World} {mg : Str → Option Value} {base : Heap} {k : Nat} {rc : Rp γ}
theorem s_done (j : Nat) {q : Addr} {x : α} {f : Option Slot → Gm} [hz : Frz r r'] [hA : At Γ j rAdr q] [hg : SetG Γ j f] (hM : q ∉ B.M) (h : DS X K B (f (some ⟨r', x⟩)) O rest D) : DS X K B Γ (⟨q, r, x⟩ :: O) rest D := fun σ G H W => by
  obtain ⟨o, h1, W2, e⟩ := W.frz hM
  obtain ⟨u, h3, h4⟩ := W2.env.get hA.get
  have hu : u = .ref q := h4
  have W3 := W2.set (s := ⟨r', x⟩) j (u := u) (by rw [hu]; exact hz.frz upd_same (r.mono e h1))
  have e2 : σ.set j (some u) = σ := by
    refine List.ext_getElem? fun l => ?_
    by_cases hj : j = l
    · subst hj
      rw [List.getElem?_set_self (List.getElem?_eq_some_iff.mp h3).1, h3]
    · rw [List.getElem?_set_ne hj]
  rw [e2, ← hg.eq] at W3
  exact h σ _ H W3
theorem rt_done {q : Addr} {x : α} [hz : Frz r r'] (hM : q ∉ B.M) (h : RT K B Γ O r' x D) : RT K B Γ (⟨q, r, x⟩ :: O) rAdr q D := fun v σ G H W rv => by
  obtain ⟨o, h1, W2, e⟩ := W.frz hM
  exact h v σ _ H W2 (by rw [show v = V.ref q from rv]; exact hz.frz upd_same (r.mono e h1))
theorem d_done {ι : Type} {F : ι → Cx} [hz : Frz r r'] {Φ : α → List Own → Prop} (h : DW F K B Γ O e rAdr fun q O1 => ∃ x O2, O1 = ⟨q, r, x⟩ :: O2 ∧ q ∉ B.M ∧ Φ x O2) : DW F K B Γ O e r' Φ := fun σ G H W Q q =>
  h σ G H W Q fun c O1 v G1 H1 ⟨x, O2, e1, hM, kk⟩ W1 e2 r1 => by
    subst e1
    obtain ⟨o, h1, W2, e⟩ := W1.frz hM
    exact q x O2 v _ H1 kk W2 (e2.trans e) (by rw [show v = V.ref c from r1]; exact hz.frz upd_same (r.mono e h1))
/-- d[i] = e, an own dict -/
theorem s_dput [fam : Fam (Us X) P w K mg base k]
    (h : DW (Us X) K B Γ O e rc fun y O1 => DW (Us X) K B Γ O1 o rAdr fun q O2 => DW (Us X) K B Γ O2 i rKey fun n O3 => ∃ xs f, OwnAt O3 q (oDk rc) xs f ∧ xs.length < sizeLine ∧ DS X K B Γ (f ⟨q, oDk rc, putX xs n y⟩) rest D)
    (hs : swapsWith e (some (.Subscript o i tpos)) pos.line X.env = pure false := by rfl) : DS X K B Γ O (.Assign [.Subscript o i tpos] e pos :: rest) D := by
  intro σ G H W
  refine WSs.cons (ps_dput (td := WE (Us X) o) (ty := WE (Us X) i) (tv := WE (Us X) e) (hu_of (fam.rm ())) (WE.pe (F := Us X) ()) (WE.pe (F := Us X) ()) (WE.pe (F := Us X) ()) hs) ?_
  refine h σ G H W _ fun y O1 v G1 H1 k1 W1 e1 r1 => ?_
  refine k1 σ G1 H1 W1 _ fun q O2 u G2 H2 k2 W2 e2 r2 => ?_
  refine k2 σ G2 H2 W2 _ fun n O3 z G3 H3 ⟨xs, f, hO, hl, kk⟩ W3 e3 r3 => ?_
  obtain ⟨ob, h1, kvs, h2, h3⟩ := W3.ownO hO
  subst h2
  refine ⟨q, _, r2, by rw [show z = kV n from r3]; exact DPut.k h1 (by rw [h3.length]; exact hl), ?_⟩
  exact kk σ G3 _ (W3.mutO (h := hO) (r' := oDk rc) (x' := putX xs n y) ⟨_, rfl, h3.put (rc.mono (e2.trans e3) r1)⟩)
theorem s_dputT [fam : Fam (Us X) P w K mg base k]
    (h : DW (Us X) K B Γ O e rc fun y O1 => DW (Us X) K B Γ O1 o rAdr fun q O2 => DW (Us X) K B Γ O2 i rTk fun n O3 => ∃ xs f, OwnAt O3 q (oDt rc) xs f ∧ xs.length < sizeLine ∧ DS X K B Γ (f ⟨q, oDt rc, putX xs n y⟩) rest D)
    (hs : swapsWith e (some (.Subscript o i tpos)) pos.line X.env = pure false := by rfl) : DS X K B Γ O (.Assign [.Subscript o i tpos] e pos :: rest) D := by
  intro σ G H W
  refine WSs.cons (ps_dput (td := WE (Us X) o) (ty := WE (Us X) i) (tv := WE (Us X) e) (hu_of (fam.rm ())) (WE.pe (F := Us X) ()) (WE.pe (F := Us X) ()) (WE.pe (F := Us X) ()) hs) ?_
  refine h σ G H W _ fun y O1 v G1 H1 k1 W1 e1 r1 => ?_
  refine k1 σ G1 H1 W1 _ fun q O2 u G2 H2 k2 W2 e2 r2 => ?_
  refine k2 σ G2 H2 W2 _ fun n O3 z G3 H3 ⟨xs, f, hO, hl, kk⟩ W3 e3 ⟨c, r3, r4⟩ => ?_
  obtain ⟨ob, h1, kvs, h2, h3⟩ := W3.ownO hO
  subst h2
  refine ⟨q, _, r2, by rw [r3]; exact DPut.t h1 (W3.sub _ _ r4) (by rw [h3.length]; exact hl), ?_⟩
  exact kk σ G3 _ (W3.mutO (h := hO) (r' := oDt rc) (x' := putX xs n y) ⟨_, rfl, h3.put (rc.mono (e2.trans e3) r1)⟩)
/-- a new key of an own dict by written keys -/
theorem s_recNew [fam : Fam (Us X) P w K mg base k] {key : Str} {ns : List Str} {fr : RpF δ} {j : Nat} {pos' : Pos} {m : Nat} [hl : Len fr m]
    (h : DW (Us X) K B Γ O e rc fun y O1 => DW (Us X) K B Γ O1 o rAdr fun q O2 => ∃ x f, OwnAt O2 q (oRec ns fr) x f ∧ DS X K B Γ (f ⟨q, oRec (ns ++ [key]) (fApp fr rc), (x, y)⟩) rest D) (hn : key ∉ ns := by decide +kernel) (hm : m = ns.length := by decide) (hz : m < 1000 := by decide)
    (hs : swapsWith e (some (.Subscript o (.Constant (.str key) j pos') tpos)) pos.line X.env = pure false := by rfl) : DS X K B Γ O (.Assign [.Subscript o (.Constant (.str key) j pos') tpos] e pos :: rest) D := by
  intro σ G H W
  refine WSs.cons (ps_dput (td := WE (Us X) o) (ty := tC (.str key)) (tv := WE (Us X) e) (hu_of (fam.rm ())) (WE.pe (F := Us X) ()) pe_str (WE.pe (F := Us X) ()) hs) ?_
  refine h σ G H W _ fun y O1 u G1 H1 k1 W1 e1 r1 => ?_
  refine k1 σ G1 H1 W1 _ fun c O2 v G2 H2 ⟨x, f, hO, kk⟩ W2 e2 r2 => ?_
  obtain ⟨ob, h1, vs, h2, h3⟩ := W2.ownO hO
  subst h2
  have hlen := hl.len h3
  have hnone : valV (zipK ns vs) (Sum.inr key) = none := valV_none (by
    rw [zipK_keys (by rw [hlen, hm])]
    intro z
    obtain ⟨b, hb, eb⟩ := List.mem_map.mp z
    exact hn (Sum.inr.inj eb ▸ hb))
  have hput : putK (zipK ns vs) (Sum.inr key) u = zipK (ns ++ [key]) (vs ++ [u]) := by
    rw [putK_new u hnone]
    unfold zipK
    rw [List.map_append, List.zip_append (by rw [List.length_map, hlen, hm])]
    rfl
  have hzz : (zipK ns vs).length < sizeLine := by
    have e3 : (zipK ns vs).length ≤ vs.length := by
      unfold zipK
      rw [List.length_zip]
      exact Nat.min_le_right _ _
    exact Nat.lt_of_le_of_lt e3 (by rw [hlen]; exact small1000 (by omega))
  refine ⟨c, _, r2, DPut.k (k := Sum.inr key) h1 hzz, ?_⟩
  refine kk _ _ _ (W2.mutO (h := hO) (r' := oRec (ns ++ [key]) (fApp fr rc)) (x' := (x, y)) ⟨vs ++ [u], by rw [hput], vs, u, rfl, h3, rc.mono e2 r1⟩)
end
end Sk
set_option Elab.async false
set_option linter.all false
set_option maxRecDepth 100000
set_option maxHeartbeats 4100000
/-! Sk13: more of objects; ends of bodies; what is found. -/
namespace Sk
open PySem L2 Evl
theorem Kl.sub {K : Fg} {C : Addr} {ns ns' : List Str} (h : Kl K C ns) (hs : ∀ x ∈ ns', x ∈ ns) : Kl K C ns' := ⟨h.c, fun f hf => h.na f (hs f hf)⟩
/-- a body that falls off its end -/
theorem s_fall {X : Cx} {K : Fg} {B : Bs} {Γ : Gm} {O : List Own} {Q : VK} (h : RT K B Γ O rNon () { nx := fun _ H' => Q .non H', rt := Q }) : DS X K B Γ O [] { nx := fun _ H' => Q .non H', rt := Q } := s_nil fun σ G H W => h .non σ G H W rfl
/-- a return in a loop -/
theorem rt_in {K : Fg} {B : Bs} {Γ : Gm} {O : List Own} {α : Type} {ra : Rp α} {x : α} {D D' : Ends} {g : Hp} (h : RT K B Γ O ra x D) (hr : D'.rt = D.rt := by rfl) : RT K (B.push g) Γ O ra x D' := fun v σ G H W r => by
  rw [hr]
  exact h v σ G H W.unbase r
section
variable {ι : Type} {F : ι → Cx} {K : Fg} {B : Bs} {Γ : Gm} {O : List Own} {α β γ : Type} {ra : Rp α} {rb : Rp β} {rc : Rp γ} {e : Expr}
/-- tuple(t) of a tuple is the same -/
theorem c_tupleT {xs : List α} {Φ : List α → List Own → Prop} (kk : Φ xs O) (hK : ∀ j, (F j).K = K := by intro _; rfl) : CW F K B Γ O (.type "tuple") (fOne (rTpv ra)) xs (rTpv ra) Φ :=
  fun σ G H vs W ⟨v, e, a, ws, h1, h2, h3⟩ Q q =>
    ⟨fun xs H Q => ∃ p ys, xs = [.ref p] ∧ ((SqL K H p ys ∧ ∀ l, H l = none → Q (.ref l) (upd H l (.tup ys))) ∨ (SqT K H p ys ∧ Q (.ref p) H)), fun j => by rw [← hK j]; exact call_tuple_of, a, ws, by rw [e, h1], .inr ⟨ex_t W.sub h2, q xs O _ G H kk W (Ex.refl _) ⟨a, ws, rfl, h2, h3⟩⟩⟩
/-- a value seen as another kind -/
theorem d_re {x : α → γ → Prop} {Φ : γ → List Own → Prop} (h : DW F K B Γ O e ra fun x O1 => ∃ y, (∀ {K : Fg} {G : Hp} {v : V}, ra.rep K G v x → rc.rep K G v y) ∧ Φ y O1) : DW F K B Γ O e rc Φ := fun σ G H W Q q =>
  h σ G H W Q fun x O' v G' H' ⟨y, c, kk⟩ W' e' hv => q y O' v G' H' kk W' e' (c hv)
end
theorem find_at {α : Type} {l : List α} {p : α → Bool} {i : Nat} {x : α} (h : (l.take i).find? p = none) (hx : l[i]? = some x) (hp : p x = true) : l.find? p = some x := by
  have hi := (List.getElem?_eq_some_iff.mp hx)
  obtain ⟨hl, e⟩ := hi
  have es : l = l.take i ++ x :: l.drop (i + 1) := by
    rw [← e]
    exact (List.take_append_drop i l).symm.trans (by rw [List.drop_eq_getElem_cons hl])
  rw [es, List.find?_append, h]
  simp [hp]
theorem find_no {α : Type} {l : List α} {p : α → Bool} {i : Nat} {x : α} (h : (l.take i).find? p = none) (hx : l[i]? = some x) (hp : p x = false) : (l.take (i + 1)).find? p = none := by
  rw [List.take_add_one, hx, List.find?_append, h]
  simp [hp]
end Sk
set_option Elab.async false
set_option linter.all false
set_option maxRecDepth 100000
set_option maxHeartbeats 4100000
/-! Sk14: name = [.. for ..] on one line (the name is set ahead of the block's end). -/
namespace Sk
open PySem L2 Evl
section
variable {ι : Type} {F : ι → Cx} {K : Fg} {B : Bs} {Γ : Gm} {O : List Own} {α β γ : Type} {ra : Rp α} {rb : Rp β} {rc : Rp γ} {a b c e elt tg iter : Expr} {es ifs : List Expr} {pos p : Pos} {n : Str} {scope : Scope}
variable {P : Program} {w : World} {mg : Str → Option Value} {base : Heap} {k : Nat} {own : List (Str × Nat)}
/-- what a comprehension makes, where it stands -/
def DL (F : ι → Cx) (K : Fg) (B : Bs) (Γ : Gm) (O : List Own) (elt tg iter : Expr) (ifs : List Expr) (scope : Scope) (own : List (Str × Nat)) (r : Rp γ) (Φ : γ → List Own → Prop) : Prop :=
  ∀ σ G H, Ws K B Γ O σ G H → ∀ Q : VK, (∀ x O' v G' H', Φ x O' → Ws K B Γ O' σ G' H' → Ex G G' → r.rep K G' v x → Q v H') → tLc (WI F tg iter) (WG (blkF F scope) tg) (WTs (blkF F scope) ifs) (WE (blkF F scope) elt) (own.map (·.2)) σ H Q
theorem l_frz {Φ : List β → List Own → Prop} (h : DL F K B Γ O elt tg iter ifs scope own rAdr fun q O1 => ∃ xs O2, O1 = ⟨q, oLst rb, xs⟩ :: O2 ∧ q ∉ B.M ∧ Φ xs O2) : DL F K B Γ O elt tg iter ifs scope own (rLst rb) Φ := by
  intro σ G H W Q q
  refine h σ G H W Q fun p O1 v G1 H1 ⟨xs, O2, e1, hM, kk⟩ W1 e2 r => ?_
  subst e1
  obtain ⟨o, ⟨ws, h1, h2⟩, W2, e3⟩ := W1.frz hM
  subst h1
  exact q xs O2 v _ H1 kk W2 (e2.trans e3) ⟨p, ws, r, upd_same, h2.mono fun _ _ z => rb.mono e3 z⟩
/-- [elt for tg in iter if ..]: a list of one's own; behind i items ys is made and d holds -/
theorem l_lcO [fam : Fam F P w K mg base k] (own : List (Str × Nat)) (vs : List Nat) {Γ' : Gm} [hw : WipeG Γ vs Γ'] {js : List Nat} {Φ : Addr → List Own → Prop}
    (h : DI F K B Γ O tg iter ra fun xs O1 => ∃ (δ : Type) (Pv : Nat → List β → δ → Prop) (Of : δ → List Own), (∃ d, Pv 0 [] d ∧ O1 = Of d) ∧
      (∀ g D i x ys d, xs[i]? = some x → Pv i ys d → DG (blkF F scope) K (B.push g) Γ' (⟨D, oLst rb, ys⟩ :: Of d) tg ra x js fun Γ2 => DTs (blkF F scope) K (B.push g) Γ2 (⟨D, oLst rb, ys⟩ :: Of d) ifs fun t O2 =>
        (t = true → DW (blkF F scope) K (B.push g) Γ2 O2 elt rb fun y O3 => ∃ d', O3 = ⟨D, oLst rb, ys⟩ :: Of d' ∧ ys.length < sizeLine ∧ Pv (i + 1) (ys ++ [y]) d') ∧ (t = false → ∃ d', O2 = ⟨D, oLst rb, ys⟩ :: Of d' ∧ Pv (i + 1) ys d')) ∧
      (∀ D ys d, D ∉ B.M → Pv xs.length ys d → Φ D (⟨D, oLst rb, ys⟩ :: Of d)))
    (hv : own.map (·.2) = vs) (hjs : ∀ j ∈ js, j ∈ vs) : DL F K B Γ O elt tg iter ifs scope own rAdr Φ := by
  intro σ G H W Q q
  refine h σ G H W _ fun xs J O1 G1 H1 ⟨δ, Pv, Of, ⟨d0, p0, o0⟩, hst, hd⟩ gv W1 e1 D hD => ?_
  rw [hv]
  have hG : ∀ {G' : Hp}, Ex G1 G' → EnvR K G' σ Γ := fun e => W.env.mono (e1.trans e)
  refine ⟨fun i m H => m = xs.length - i ∧ i ≤ xs.length ∧ ∃ ys d G2, Pv i ys d ∧ Ws K (B.push G1) Γ' (⟨D, oLst rb, ys⟩ :: Of d) (wipe σ vs) G2 H, ⟨xs.length, by simp, Nat.zero_le _, [], d0, G1, p0, ?_⟩, ?_⟩
  · have W2 := (W1.newOwn hD (r := oLst rb) (x := []) ⟨[], rfl, trivial⟩).base
    rw [o0] at W2
    exact W2.env' (hw.env (hG (Ex.refl _)))
  rintro i m H2 ⟨rfl, hi, ys, d, G2, pd, W2⟩
  have eb : Ex G1 G2 := W2.bs G1 List.mem_cons_self
  by_cases hlt : i < xs.length
  · refine .inr ⟨gv.go i G2 H2 hlt eb W2.sub, fun H' => i + 1 ≤ xs.length ∧ ∃ ys d G2, Pv (i + 1) ys d ∧ Ws K (B.push G1) Γ' (⟨D, oLst rb, ys⟩ :: Of d) (wipe σ vs) G2 H', fun H' ⟨l, z⟩ => ⟨xs.length - (i + 1), by omega, rfl, l, z⟩, fun v H3 y => ?_⟩
    obtain ⟨x, G3, hx, s3, r3⟩ := gv.yld i G2 H2 v H3 hlt eb W2.sub y
    have W3 := W2.step s3
    refine hst G1 D i x ys d hx pd (wipe σ vs) G3 H3 v W3 r3 _ fun Γ2 σ2 q2 W4 wp => ⟨(wp vs hjs).trans wipe_wipe, ?_⟩
    refine q2 σ2 G3 H3 W4 _ fun t O2 G4 H4 kk W5 e5 => ?_
    have back : ∀ {O' : List Own} {G' H' : Hp}, Ws K (B.push G1) Γ2 O' σ2 G' H' → Ws K (B.push G1) Γ' O' (wipe σ vs) G' H' := fun W' => W'.env' (hw.env (hG (W'.bs G1 List.mem_cons_self)))
    cases t with
    | false =>
      obtain ⟨d', o2, p2⟩ := kk.2 rfl
      subst o2
      exact iteF ⟨hlt, ys, d', G4, p2, back W5⟩
    | true =>
      refine iteT ?_
      refine kk.1 rfl σ2 G4 H4 W5 _ fun y O3 u G5 H5 ⟨d', o3, hl, p3⟩ W6 e6 r6 => ?_
      subst o3
      obtain ⟨⟨ob, h1, ws, h2, h3⟩, _⟩ := W6.own _ List.mem_cons_self
      subst h2
      refine ⟨ws, h1, by rw [h3.length]; exact hl, hlt, ys ++ [y], d', G5, p3, ?_⟩
      exact back (W6.mutHd (r' := oLst rb) (x' := ys ++ [y]) ⟨ws ++ [u], rfl, h3.append ⟨r6, trivial⟩⟩)
  · obtain rfl : i = xs.length := by omega
    refine .inl ⟨gv.stop G2 H2 eb W2.sub, q D _ (.ref D) G2 H2 (hd D ys d (W1.notM hD) pd) (W2.unbase.env' (hG eb)) (e1.trans eb) rfl⟩
theorem l_lcF [fam : Fam F P w K mg base k] (own : List (Str × Nat)) (vs : List Nat) {Γ' : Gm} [hw : WipeG Γ vs Γ'] {js : List Nat} {f : α → β} {g : α → Bool} {Φ : List β → List Own → Prop}
    (h : DI F K B Γ O tg iter ra fun xs O1 => O1 = O ∧ xs.length ≤ sizeLine ∧
      (∀ gg D ys x, x ∈ xs → DG (blkF F scope) K (B.push gg) Γ' (⟨D, oLst rb, ys⟩ :: O) tg ra x js fun Γ2 => DTs (blkF F scope) K (B.push gg) Γ2 (⟨D, oLst rb, ys⟩ :: O) ifs fun t O2 =>
        t = g x ∧ O2 = ⟨D, oLst rb, ys⟩ :: O ∧ (g x = true → DW (blkF F scope) K (B.push gg) Γ2 (⟨D, oLst rb, ys⟩ :: O) elt rb fun y O3 => y = f x ∧ O3 = ⟨D, oLst rb, ys⟩ :: O)) ∧
      Φ ((xs.filter g).map f) O)
    (hv : own.map (·.2) = vs) (hjs : ∀ j ∈ js, j ∈ vs) : DL F K B Γ O elt tg iter ifs scope own (rLst rb) Φ := by
  refine l_frz (l_lcO (ra := ra) (rb := rb) own vs ?_ hv hjs)
  intro σ G H W R q
  refine h σ G H W R fun xs J O1 G1 H1 ⟨e1, hl, ht, hd⟩ gv W1 ee => q xs J O1 G1 H1 ⟨Unit, fun i ys _ => i ≤ xs.length ∧ ys = ((xs.take i).filter g).map f, fun _ => O, ⟨(), ⟨Nat.zero_le _, rfl⟩, e1⟩, fun gg D i x ys d hx ⟨hi, hy⟩ => ?_, fun D ys d hM ⟨_, hy⟩ => ?_⟩ gv W1 ee
  · have hlt : i < xs.length := (List.getElem?_eq_some_iff.mp hx).1
    have hmem := List.mem_of_getElem? hx
    have hlen : ys.length ≤ i := by
      rw [hy, List.length_map]
      refine Nat.le_trans (List.length_filter_le _ _) ?_
      rw [List.length_take]
      exact Nat.min_le_left _ _
    intro σ2 G2 H2 v W2 r2 Q2 q2
    refine ht gg D ys x hmem σ2 G2 H2 v W2 r2 Q2 fun Γ2 σ' p W' wp => q2 Γ2 σ' (fun σ3 G3 H3 W3 Q3 q3 => p σ3 G3 H3 W3 Q3 fun t O2 G4 H4 ⟨p1, p2, p3⟩ W4 e4 => q3 t O2 G4 H4 ?_ W4 e4) W' wp
    subst p1 p2
    refine ⟨fun ht => d_mono (p3 ht) fun y O3 ⟨z1, z2⟩ => ⟨(), z2, by omega, hlt, ?_⟩, fun ht => ⟨(), rfl, hlt, ?_⟩⟩
    · rw [take_snoc hx, List.filter_append, List.map_append, ← hy, z1]
      congr 1
      simp [ht]
    · rw [take_snoc hx, List.filter_append, List.map_append, ← hy]
      simp [ht]
  · rw [List.take_length] at hy
    subst hy
    exact ⟨_, _, rfl, hM, hd⟩
/-- without a test -/
theorem l_lcP [fam : Fam F P w K mg base k] (own : List (Str × Nat)) (vs : List Nat) {Γ' : Gm} [hw : WipeG Γ vs Γ'] {js : List Nat} {f : α → β} {Φ : List β → List Own → Prop}
    (h : DI F K B Γ O tg iter ra fun xs O1 => O1 = O ∧ xs.length ≤ sizeLine ∧
      (∀ gg D ys x, x ∈ xs → DG (blkF F scope) K (B.push gg) Γ' (⟨D, oLst rb, ys⟩ :: O) tg ra x js fun Γ2 =>
        DW (blkF F scope) K (B.push gg) Γ2 (⟨D, oLst rb, ys⟩ :: O) elt rb fun y O3 => y = f x ∧ O3 = ⟨D, oLst rb, ys⟩ :: O) ∧ Φ (xs.map f) O)
    (hv : own.map (·.2) = vs) (hjs : ∀ j ∈ js, j ∈ vs) : DL F K B Γ O elt tg iter [] scope own (rLst rb) Φ := by
  refine l_lcF (ra := ra) (f := f) (g := fun _ => true) own vs ?_ hv hjs
  intro σ G H W R q
  refine h σ G H W R fun xs J O1 G1 H1 ⟨e1, hl, ht, hd⟩ gv W1 ee => q xs J O1 G1 H1 ⟨e1, hl, fun gg D ys x hx σ2 G2 H2 v W2 r2 Q2 q2 => ht gg D ys x hx σ2 G2 H2 v W2 r2 Q2 fun Γ2 σ' p W' wp => q2 Γ2 σ' (dts_nil ⟨rfl, rfl, fun _ => p⟩) W' wp, ?_⟩ gv W1 ee
  have e : xs.filter (fun _ => true) = xs := List.filter_eq_self.mpr fun _ _ => rfl
  rw [e]
  exact hd
/-- name = [..] -/
theorem s_lc {X : Cx} [fam : Fam (Us X) P w K mg base k] (i : Nat) {f : Option Slot → Gm} [hg : SetG Γ i f] {rest : List Stmt} {D : Ends} {spos : Pos} {r : Rp γ} (own : List (Str × Nat)) (ok : BlkOk X.N X.env.scope scope own)
    (h : DL (Us X) K B Γ O elt tg iter ifs scope own r fun x O' => DS X K B (f (some ⟨r, x⟩)) O' rest D) (hi : X.N[i]? = some n := by rfl) (hx : X.env.scope.names.lookup n = some .local := by rfl)
    (hs : ∀ x, foldedSetIterable iter X.env x = pure x := by intro _; rfl) (hsw : swapsWith (.ListComp elt [⟨tg, iter, ifs, 0⟩] scope pos) (some (.Name n p)) spos.line X.env = pure true := by exact sw_true (by rfl) (by rfl) (by rfl) (by rfl)) :
    DS X K B Γ O (.Assign [.Name n p] (.ListComp elt [⟨tg, iter, ifs, 0⟩] scope pos) spos :: rest) D := by
  intro σ G H W
  refine WSs.cons (ps_setLc (wi := WI (Us X) tg iter) (g := WG (blkF (Us X) scope) tg) (tt := WTs (blkF (Us X) scope) ifs) (te := WE (blkF (Us X) scope) elt) (fam.cm ()) (fam.nd ()) hi hx hsw (WI.pi (F := Us X) ()) ok (fun s H C cl fp => WG.pg (F := blkF (Us X) scope) ((), s, H, C, cl, fp))
    (fun s H C cl fp => WTs.pts (F := blkF (Us X) scope) ((), s, H, C, cl, fp)) (fun s H C cl fp => WE.pe (F := blkF (Us X) scope) ((), s, H, C, cl, fp)) hs) ?_
  exact h σ G H W _ fun x O' v G' H' k W' _ r' => k _ G' H' (by rw [hg.eq]; exact W'.set i r')
theorem s_lcO {X : Cx} [fam : Fam (Us X) P w K mg base k] (i0 : Nat) {f0 : Option Slot → Gm} [hg : SetG Γ i0 f0] {rest : List Stmt} {D0 : Ends} {spos : Pos} (own : List (Str × Nat)) (vs : List Nat) (ok : Unit → BlkOk X.N X.env.scope scope own) {Γ' : Gm} [hw : WipeG Γ vs Γ'] {js : List Nat}
    (h : DI (Us X) K B Γ O tg iter ra fun xs O1 => ∃ (δ : Type) (Pv : Nat → List β → δ → Prop) (Of : δ → List Own), (∃ d, Pv 0 [] d ∧ O1 = Of d) ∧
      (∀ g D i x ys d, xs[i]? = some x → Pv i ys d → DG (blkF (Us X) scope) K (B.push g) Γ' (⟨D, oLst rb, ys⟩ :: Of d) tg ra x js fun Γ2 => DTs (blkF (Us X) scope) K (B.push g) Γ2 (⟨D, oLst rb, ys⟩ :: Of d) ifs fun t O2 =>
        (t = true → DW (blkF (Us X) scope) K (B.push g) Γ2 O2 elt rb fun y O3 => ∃ d', O3 = ⟨D, oLst rb, ys⟩ :: Of d' ∧ ys.length < sizeLine ∧ Pv (i + 1) (ys ++ [y]) d') ∧ (t = false → ∃ d', O2 = ⟨D, oLst rb, ys⟩ :: Of d' ∧ Pv (i + 1) ys d')) ∧
      (∀ D ys d, D ∉ B.M → Pv xs.length ys d → DS X K B (f0 (some ⟨rAdr, D⟩)) (⟨D, oLst rb, ys⟩ :: Of d) rest D0))
    (hi : X.N[i0]? = some n := by rfl) (hx : X.env.scope.names.lookup n = some .local := by rfl) (hv : own.map (·.2) = vs := by rfl) (hjs : ∀ j ∈ js, j ∈ vs := by decide)
    (hs : ∀ x, foldedSetIterable iter X.env x = pure x := by intro _; rfl) (hsw : swapsWith (.ListComp elt [⟨tg, iter, ifs, 0⟩] scope pos) (some (.Name n p)) spos.line X.env = pure true := by exact sw_true (by rfl) (by rfl) (by rfl) (by rfl)) :
    DS X K B Γ O (.Assign [.Name n p] (.ListComp elt [⟨tg, iter, ifs, 0⟩] scope pos) spos :: rest) D0 :=
  s_lc i0 own (ok ()) (l_lcO (ra := ra) (rb := rb) own vs h hv hjs) hi hx hs hsw
theorem s_lcF {X : Cx} [fam : Fam (Us X) P w K mg base k] (i0 : Nat) {f0 : Option Slot → Gm} [hg : SetG Γ i0 f0] {rest : List Stmt} {D0 : Ends} {spos : Pos} (own : List (Str × Nat)) (vs : List Nat) (ok : Unit → BlkOk X.N X.env.scope scope own) {Γ' : Gm} [hw : WipeG Γ vs Γ'] {js : List Nat} {f : α → β} {g : α → Bool}
    (h : DI (Us X) K B Γ O tg iter ra fun xs O1 => O1 = O ∧ xs.length ≤ sizeLine ∧
      (∀ gg D ys x, x ∈ xs → DG (blkF (Us X) scope) K (B.push gg) Γ' (⟨D, oLst rb, ys⟩ :: O) tg ra x js fun Γ2 => DTs (blkF (Us X) scope) K (B.push gg) Γ2 (⟨D, oLst rb, ys⟩ :: O) ifs fun t O2 =>
        t = g x ∧ O2 = ⟨D, oLst rb, ys⟩ :: O ∧ (g x = true → DW (blkF (Us X) scope) K (B.push gg) Γ2 (⟨D, oLst rb, ys⟩ :: O) elt rb fun y O3 => y = f x ∧ O3 = ⟨D, oLst rb, ys⟩ :: O)) ∧
      DS X K B (f0 (some ⟨rLst rb, (xs.filter g).map f⟩)) O rest D0)
    (hi : X.N[i0]? = some n := by rfl) (hx : X.env.scope.names.lookup n = some .local := by rfl) (hv : own.map (·.2) = vs := by rfl) (hjs : ∀ j ∈ js, j ∈ vs := by decide)
    (hs : ∀ x, foldedSetIterable iter X.env x = pure x := by intro _; rfl) (hsw : swapsWith (.ListComp elt [⟨tg, iter, ifs, 0⟩] scope pos) (some (.Name n p)) spos.line X.env = pure true := by exact sw_true (by rfl) (by rfl) (by rfl) (by rfl)) :
    DS X K B Γ O (.Assign [.Name n p] (.ListComp elt [⟨tg, iter, ifs, 0⟩] scope pos) spos :: rest) D0 :=
  s_lc i0 own (ok ()) (l_lcF (ra := ra) (rb := rb) own vs h hv hjs) hi hx hs hsw
theorem s_lcP {X : Cx} [fam : Fam (Us X) P w K mg base k] (i0 : Nat) {f0 : Option Slot → Gm} [hg : SetG Γ i0 f0] {rest : List Stmt} {D0 : Ends} {spos : Pos} (own : List (Str × Nat)) (vs : List Nat) (ok : Unit → BlkOk X.N X.env.scope scope own) {Γ' : Gm} [hw : WipeG Γ vs Γ'] {js : List Nat} {f : α → β}
    (h : DI (Us X) K B Γ O tg iter ra fun xs O1 => O1 = O ∧ xs.length ≤ sizeLine ∧
      (∀ gg D ys x, x ∈ xs → DG (blkF (Us X) scope) K (B.push gg) Γ' (⟨D, oLst rb, ys⟩ :: O) tg ra x js fun Γ2 =>
        DW (blkF (Us X) scope) K (B.push gg) Γ2 (⟨D, oLst rb, ys⟩ :: O) elt rb fun y O3 => y = f x ∧ O3 = ⟨D, oLst rb, ys⟩ :: O) ∧ DS X K B (f0 (some ⟨rLst rb, xs.map f⟩)) O rest D0)
    (hi : X.N[i0]? = some n := by rfl) (hx : X.env.scope.names.lookup n = some .local := by rfl) (hv : own.map (·.2) = vs := by rfl) (hjs : ∀ j ∈ js, j ∈ vs := by decide)
    (hs : ∀ x, foldedSetIterable iter X.env x = pure x := by intro _; rfl) (hsw : swapsWith (.ListComp elt [⟨tg, iter, [], 0⟩] scope pos) (some (.Name n p)) spos.line X.env = pure true := by exact sw_true (by rfl) (by rfl) (by rfl) (by rfl)) :
    DS X K B Γ O (.Assign [.Name n p] (.ListComp elt [⟨tg, iter, [], 0⟩] scope pos) spos :: rest) D0 :=
  s_lc i0 own (ok ()) (l_lcP (ra := ra) (rb := rb) own vs h hv hjs) hi hx hs hsw
end
end Sk
set_option Elab.async false
set_option linter.all false
set_option maxRecDepth 100000
set_option maxHeartbeats 4100000
/-! Sk15: an own list is walked, while it stands as it is. -/
namespace Sk
open PySem L2 Evl
section
variable {ι : Type} {F : ι → Cx} {K : Fg} {B : Bs} {Γ : Gm} {O : List Own} {α β γ : Type} {ra : Rp α} {rb : Rp β} {rc : Rp γ} {a b c e elt tg iter : Expr} {es ifs : List Expr} {pos p : Pos} {n : Str} {scope : Scope}
variable {P : Program} {w : World} {mg : Str → Option Value} {base : Heap} {k : Nat} {own : List (Str × Nat)}
section
variable {σ : St} {G H H' : Hp} {q : Addr} {xs : List α} {i : Nat} {v : V}
theorem own_lst (m : (⟨q, oLst ra, xs⟩ : Own) ∈ O) (W : Ws K B Γ O σ G H) : ∃ vs, H q = some (.lst vs) ∧ All2 (ra.rep K G) vs xs := by
  obtain ⟨⟨o, h1, vs, h2, h3⟩, _⟩ := W.own _ m
  subst h2
  exact ⟨vs, h1, h3⟩
theorem own_go (m : (⟨q, oLst ra, xs⟩ : Own) ∈ O) (W : Ws K B Γ O σ G H) (hi : i < xs.length) : (Itl K q).go i H := by
  obtain ⟨vs, h1, h3⟩ := own_lst m W
  have hv : i < vs.length := by rw [h3.length]; exact hi
  exact ⟨vs, vs[i], SqL.of h1, List.getElem?_eq_getElem hv⟩
theorem own_stop (m : (⟨q, oLst ra, xs⟩ : Own) ∈ O) (W : Ws K B Γ O σ G H) : (Itl K q).stop xs.length H := by
  obtain ⟨vs, h1, h3⟩ := own_lst m W
  exact ⟨vs, SqL.of h1, by rw [h3.length]; exact Nat.le_refl _⟩
theorem own_yld (m : (⟨q, oLst ra, xs⟩ : Own) ∈ O) (W : Ws K B Γ O σ G H) (hi : i < xs.length) (y : (Itl K q).yld i H v H') : ∃ x G', xs[i]? = some x ∧ Stp B.T [] G H G' H' ∧ ra.rep K G' v x := by
  obtain ⟨vs, h1, h3⟩ := own_lst m W
  obtain ⟨e1, e2⟩ := y
  obtain ⟨x, hx, hr⟩ := h3.get (e2 vs (SqL.of h1))
  subst e1
  exact ⟨x, G, hx, Stp.refl W.sub, hr⟩
end
def DIo (F : ι → Cx) (K : Fg) (B : Bs) (Γ : Gm) (O : List Own) (tg e : Expr) (r : Rp α) (Φ : Addr → List α → List Own → Prop) : Prop :=
  ∀ σ G H, Ws K B Γ O σ G H → ∀ R : It → Hp → Prop, (∀ q xs O' G' H', Φ q xs O' → (⟨q, oLst r, xs⟩ : Own) ∈ O' → Ws K B Γ O' σ G' H' → Ex G G' → R (Itl K q) H') → WI F tg e σ H R
theorem w_own [fam : Fam F P w K mg base k] {Φ : Addr → List α → List Own → Prop} (h : DW F K B Γ O e rAdr fun q O1 => ∃ xs f, OwnAt O1 q (oLst ra) xs f ∧ Φ q xs O1) : DIo F K B Γ O tg e ra Φ := by
  intro σ G H W R q
  refine ⟨iList K (WE F e), fun i => by rw [← fam.ka i]; exact pi_list (WE.pe i), ?_⟩
  refine h σ G H W _ fun c O' v G' H' ⟨xs, f, hO, kk⟩ W' e' r' => ?_
  obtain ⟨j, hj, _⟩ := hO.at_
  have m := List.mem_of_getElem? hj
  obtain ⟨vs, h1, h3⟩ := own_lst m W'
  exact ⟨c, r', ⟨vs, SqL.of h1⟩, q c xs O' G' H' kk m W' e'⟩
theorem l_lcOw [fam : Fam F P w K mg base k] (own : List (Str × Nat)) (vs : List Nat) {Γ' : Gm} [hw : WipeG Γ vs Γ'] {js : List Nat} {Φ : Addr → List Own → Prop}
    (h : DIo F K B Γ O tg iter ra fun q0 xs O1 => ∃ (δ : Type) (Pv : Nat → List β → δ → Prop) (Of : δ → List Own), (∃ d, Pv 0 [] d ∧ O1 = Of d) ∧ (∀ i ys d, Pv i ys d → (⟨q0, oLst ra, xs⟩ : Own) ∈ Of d) ∧
      (∀ g D i x ys d, xs[i]? = some x → Pv i ys d → DG (blkF F scope) K (B.push g) Γ' (⟨D, oLst rb, ys⟩ :: Of d) tg ra x js fun Γ2 => DTs (blkF F scope) K (B.push g) Γ2 (⟨D, oLst rb, ys⟩ :: Of d) ifs fun t O2 =>
        (t = true → DW (blkF F scope) K (B.push g) Γ2 O2 elt rb fun y O3 => ∃ d', O3 = ⟨D, oLst rb, ys⟩ :: Of d' ∧ ys.length < sizeLine ∧ Pv (i + 1) (ys ++ [y]) d') ∧ (t = false → ∃ d', O2 = ⟨D, oLst rb, ys⟩ :: Of d' ∧ Pv (i + 1) ys d')) ∧
      (∀ D ys d, D ∉ B.M → Pv xs.length ys d → Φ D (⟨D, oLst rb, ys⟩ :: Of d)))
    (hv : own.map (·.2) = vs) (hjs : ∀ j ∈ js, j ∈ vs) : DL F K B Γ O elt tg iter ifs scope own rAdr Φ := by
  intro σ G H W Q q
  refine h σ G H W _ fun q0 xs O1 G1 H1 ⟨δ, Pv, Of, ⟨d0, p0, o0⟩, hmem, hst, hd⟩ _ W1 e1 D hD => ?_
  rw [hv]
  have hG : ∀ {G' : Hp}, Ex G1 G' → EnvR K G' σ Γ := fun e => W.env.mono (e1.trans e)
  refine ⟨fun i m H => m = xs.length - i ∧ i ≤ xs.length ∧ ∃ ys d G2, Pv i ys d ∧ Ws K (B.push G1) Γ' (⟨D, oLst rb, ys⟩ :: Of d) (wipe σ vs) G2 H, ⟨xs.length, by simp, Nat.zero_le _, [], d0, G1, p0, ?_⟩, ?_⟩
  · have W2 := (W1.newOwn hD (r := oLst rb) (x := []) ⟨[], rfl, trivial⟩).base
    rw [o0] at W2
    exact W2.env' (hw.env (hG (Ex.refl _)))
  rintro i m H2 ⟨rfl, hi, ys, d, G2, pd, W2⟩
  have eb : Ex G1 G2 := W2.bs G1 List.mem_cons_self
  by_cases hlt : i < xs.length
  · refine .inr ⟨own_go (List.mem_cons_of_mem _ (hmem i ys d pd)) W2 hlt, fun H' => i + 1 ≤ xs.length ∧ ∃ ys d G2, Pv (i + 1) ys d ∧ Ws K (B.push G1) Γ' (⟨D, oLst rb, ys⟩ :: Of d) (wipe σ vs) G2 H', fun H' ⟨l, z⟩ => ⟨xs.length - (i + 1), by omega, rfl, l, z⟩, fun v H3 y => ?_⟩
    obtain ⟨x, G3, hx, s3, r3⟩ := own_yld (List.mem_cons_of_mem _ (hmem i ys d pd)) W2 hlt y
    have W3 := W2.step s3
    refine hst G1 D i x ys d hx pd (wipe σ vs) G3 H3 v W3 r3 _ fun Γ2 σ2 q2 W4 wp => ⟨(wp vs hjs).trans wipe_wipe, ?_⟩
    refine q2 σ2 G3 H3 W4 _ fun t O2 G4 H4 kk W5 e5 => ?_
    have back : ∀ {O' : List Own} {G' H' : Hp}, Ws K (B.push G1) Γ2 O' σ2 G' H' → Ws K (B.push G1) Γ' O' (wipe σ vs) G' H' := fun W' => W'.env' (hw.env (hG (W'.bs G1 List.mem_cons_self)))
    cases t with
    | false =>
      obtain ⟨d', o2, p2⟩ := kk.2 rfl
      subst o2
      exact iteF ⟨hlt, ys, d', G4, p2, back W5⟩
    | true =>
      refine iteT ?_
      refine kk.1 rfl σ2 G4 H4 W5 _ fun y O3 u G5 H5 ⟨d', o3, hl, p3⟩ W6 e6 r6 => ?_
      subst o3
      obtain ⟨⟨ob, h1, ws, h2, h3⟩, _⟩ := W6.own _ List.mem_cons_self
      subst h2
      refine ⟨ws, h1, by rw [h3.length]; exact hl, hlt, ys ++ [y], d', G5, p3, ?_⟩
      exact back (W6.mutHd (r' := oLst rb) (x' := ys ++ [y]) ⟨ws ++ [u], rfl, h3.append ⟨r6, trivial⟩⟩)
  · obtain rfl : i = xs.length := by omega
    refine .inl ⟨own_stop (List.mem_cons_of_mem _ (hmem _ ys d pd)) W2, q D _ (.ref D) G2 H2 (hd D ys d (W1.notM hD) pd) (W2.unbase.env' (hG eb)) (e1.trans eb) rfl⟩
theorem l_lcFw [fam : Fam F P w K mg base k] (own : List (Str × Nat)) (vs : List Nat) {Γ' : Gm} [hw : WipeG Γ vs Γ'] {js : List Nat} {f : α → β} {g : α → Bool} {Φ : List β → List Own → Prop}
    (h : DIo F K B Γ O tg iter ra fun q0 xs O1 => O1 = O ∧ xs.length ≤ sizeLine ∧
      (∀ gg D ys x, x ∈ xs → DG (blkF F scope) K (B.push gg) Γ' (⟨D, oLst rb, ys⟩ :: O) tg ra x js fun Γ2 => DTs (blkF F scope) K (B.push gg) Γ2 (⟨D, oLst rb, ys⟩ :: O) ifs fun t O2 =>
        t = g x ∧ O2 = ⟨D, oLst rb, ys⟩ :: O ∧ (g x = true → DW (blkF F scope) K (B.push gg) Γ2 (⟨D, oLst rb, ys⟩ :: O) elt rb fun y O3 => y = f x ∧ O3 = ⟨D, oLst rb, ys⟩ :: O)) ∧
      Φ ((xs.filter g).map f) O)
    (hv : own.map (·.2) = vs) (hjs : ∀ j ∈ js, j ∈ vs) : DL F K B Γ O elt tg iter ifs scope own (rLst rb) Φ := by
  refine l_frz (l_lcOw (ra := ra) (rb := rb) own vs ?_ hv hjs)
  intro σ G H W R q
  refine h σ G H W R fun q0 xs O1 G1 H1 ⟨e1, hl, ht, hd⟩ hm0 W1 ee => q q0 xs O1 G1 H1 ⟨Unit, fun i ys _ => i ≤ xs.length ∧ ys = ((xs.take i).filter g).map f, fun _ => O, ⟨(), ⟨Nat.zero_le _, rfl⟩, e1⟩, fun _ _ _ _ => e1 ▸ hm0, fun gg D i x ys d hx ⟨hi, hy⟩ => ?_, fun D ys d hM ⟨_, hy⟩ => ?_⟩ hm0 W1 ee
  · have hlt : i < xs.length := (List.getElem?_eq_some_iff.mp hx).1
    have hmem := List.mem_of_getElem? hx
    have hlen : ys.length ≤ i := by
      rw [hy, List.length_map]
      refine Nat.le_trans (List.length_filter_le _ _) ?_
      rw [List.length_take]
      exact Nat.min_le_left _ _
    intro σ2 G2 H2 v W2 r2 Q2 q2
    refine ht gg D ys x hmem σ2 G2 H2 v W2 r2 Q2 fun Γ2 σ' p W' wp => q2 Γ2 σ' (fun σ3 G3 H3 W3 Q3 q3 => p σ3 G3 H3 W3 Q3 fun t O2 G4 H4 ⟨p1, p2, p3⟩ W4 e4 => q3 t O2 G4 H4 ?_ W4 e4) W' wp
    subst p1 p2
    refine ⟨fun ht => d_mono (p3 ht) fun y O3 ⟨z1, z2⟩ => ⟨(), z2, by omega, hlt, ?_⟩, fun ht => ⟨(), rfl, hlt, ?_⟩⟩
    · rw [take_snoc hx, List.filter_append, List.map_append, ← hy, z1]
      congr 1
      simp [ht]
    · rw [take_snoc hx, List.filter_append, List.map_append, ← hy]
      simp [ht]
  · rw [List.take_length] at hy
    subst hy
    exact ⟨_, _, rfl, hM, hd⟩
theorem l_lcPw [fam : Fam F P w K mg base k] (own : List (Str × Nat)) (vs : List Nat) {Γ' : Gm} [hw : WipeG Γ vs Γ'] {js : List Nat} {f : α → β} {Φ : List β → List Own → Prop}
    (h : DIo F K B Γ O tg iter ra fun q0 xs O1 => O1 = O ∧ xs.length ≤ sizeLine ∧
      (∀ gg D ys x, x ∈ xs → DG (blkF F scope) K (B.push gg) Γ' (⟨D, oLst rb, ys⟩ :: O) tg ra x js fun Γ2 =>
        DW (blkF F scope) K (B.push gg) Γ2 (⟨D, oLst rb, ys⟩ :: O) elt rb fun y O3 => y = f x ∧ O3 = ⟨D, oLst rb, ys⟩ :: O) ∧ Φ (xs.map f) O)
    (hv : own.map (·.2) = vs) (hjs : ∀ j ∈ js, j ∈ vs) : DL F K B Γ O elt tg iter [] scope own (rLst rb) Φ := by
  refine l_lcFw (ra := ra) (f := f) (g := fun _ => true) own vs ?_ hv hjs
  intro σ G H W R q
  refine h σ G H W R fun q0 xs O1 G1 H1 ⟨e1, hl, ht, hd⟩ hm0 W1 ee => q q0 xs O1 G1 H1 ⟨e1, hl, fun gg D ys x hx σ2 G2 H2 v W2 r2 Q2 q2 => ht gg D ys x hx σ2 G2 H2 v W2 r2 Q2 fun Γ2 σ' p W' wp => q2 Γ2 σ' (dts_nil ⟨rfl, rfl, fun _ => p⟩) W' wp, ?_⟩ hm0 W1 ee
  have e : xs.filter (fun _ => true) = xs := List.filter_eq_self.mpr fun _ _ => rfl
  rw [e]
  exact hd
/-- as a value -/
theorem d_lcL [fam : Fam F P w K mg base k] {r : Rp γ} {Φ : γ → List Own → Prop} (own : List (Str × Nat)) (ok : ∀ i, BlkOk (F i).N (F i).env.scope scope own) (h : DL F K B Γ O elt tg iter ifs scope own r Φ)
    (hs : ∀ i x, foldedSetIterable iter (F i).env x = pure x := by intro _ _; rfl) : DW F K B Γ O (.ListComp elt [⟨tg, iter, ifs, 0⟩] scope pos) r Φ := by
  intro σ G H W Q q
  refine ⟨tLc (WI F tg iter) (WG (blkF F scope) tg) (WTs (blkF F scope) ifs) (WE (blkF F scope) elt) (own.map (·.2)), fun i => pe_lc (fam.cm i) (fam.nd i) (WI.pi i) (ok i) (fun s H C cl fp => WG.pg (F := blkF F scope) (i, s, H, C, cl, fp))
    (fun s H C cl fp => WTs.pts (F := blkF F scope) (i, s, H, C, cl, fp)) (fun s H C cl fp => WE.pe (F := blkF F scope) (i, s, H, C, cl, fp)) (hs i), ?_⟩
  exact h σ G H W Q q
theorem d_lcPw [fam : Fam F P w K mg base k] (own : List (Str × Nat)) (vs : List Nat) (ok : ∀ i, BlkOk (F i).N (F i).env.scope scope own) {Γ' : Gm} [hw : WipeG Γ vs Γ'] {js : List Nat} {f : α → β} {Φ : List β → List Own → Prop}
    (h : DIo F K B Γ O tg iter ra fun q0 xs O1 => O1 = O ∧ xs.length ≤ sizeLine ∧
      (∀ gg D ys x, x ∈ xs → DG (blkF F scope) K (B.push gg) Γ' (⟨D, oLst rb, ys⟩ :: O) tg ra x js fun Γ2 =>
        DW (blkF F scope) K (B.push gg) Γ2 (⟨D, oLst rb, ys⟩ :: O) elt rb fun y O3 => y = f x ∧ O3 = ⟨D, oLst rb, ys⟩ :: O) ∧ Φ (xs.map f) O)
    (hv : own.map (·.2) = vs := by rfl) (hjs : ∀ j ∈ js, j ∈ vs := by decide) (hs : ∀ i x, foldedSetIterable iter (F i).env x = pure x := by intro _ _; rfl) :
    DW F K B Γ O (.ListComp elt [⟨tg, iter, [], 0⟩] scope pos) (rLst rb) Φ :=
  d_lcL own ok (l_lcPw (ra := ra) (rb := rb) own vs h hv hjs) hs
theorem s_lcFw {X : Cx} [fam : Fam (Us X) P w K mg base k] (i0 : Nat) {f0 : Option Slot → Gm} [hg : SetG Γ i0 f0] {rest : List Stmt} {D0 : Ends} {spos : Pos} (own : List (Str × Nat)) (vs : List Nat) (ok : Unit → BlkOk X.N X.env.scope scope own) {Γ' : Gm} [hw : WipeG Γ vs Γ'] {js : List Nat} {f : α → β} {g : α → Bool}
    (h : DIo (Us X) K B Γ O tg iter ra fun q0 xs O1 => O1 = O ∧ xs.length ≤ sizeLine ∧
      (∀ gg D ys x, x ∈ xs → DG (blkF (Us X) scope) K (B.push gg) Γ' (⟨D, oLst rb, ys⟩ :: O) tg ra x js fun Γ2 => DTs (blkF (Us X) scope) K (B.push gg) Γ2 (⟨D, oLst rb, ys⟩ :: O) ifs fun t O2 =>
        t = g x ∧ O2 = ⟨D, oLst rb, ys⟩ :: O ∧ (g x = true → DW (blkF (Us X) scope) K (B.push gg) Γ2 (⟨D, oLst rb, ys⟩ :: O) elt rb fun y O3 => y = f x ∧ O3 = ⟨D, oLst rb, ys⟩ :: O)) ∧
      DS X K B (f0 (some ⟨rLst rb, (xs.filter g).map f⟩)) O rest D0)
    (hi : X.N[i0]? = some n := by rfl) (hx : X.env.scope.names.lookup n = some .local := by rfl) (hv : own.map (·.2) = vs := by rfl) (hjs : ∀ j ∈ js, j ∈ vs := by decide)
    (hs : ∀ x, foldedSetIterable iter X.env x = pure x := by intro _; rfl) (hsw : swapsWith (.ListComp elt [⟨tg, iter, ifs, 0⟩] scope pos) (some (.Name n p)) spos.line X.env = pure true := by exact sw_true (by rfl) (by rfl) (by rfl) (by rfl)) :
    DS X K B Γ O (.Assign [.Name n p] (.ListComp elt [⟨tg, iter, ifs, 0⟩] scope pos) spos :: rest) D0 :=
  s_lc i0 own (ok ()) (l_lcFw (ra := ra) (rb := rb) own vs h hv hjs) hi hx hs hsw
end
section
variable {X : Cx} {K : Fg} {B : Bs} {Γ Γ' : Gm} {O O' : List Own} {α β : Type} {ra : Rp α} {D D0 : Ends} {e c tg iter : Expr} {rest body : List Stmt} {n : Str} {pos p : Pos}
variable {P : Program} {w : World} {mg : Str → Option Value} {base : Heap} {k : Nat}
theorem s_forO [fam : Fam (Us X) P w K mg base k] {js : List Nat}
    (h : DIo (Us X) K B Γ O tg iter ra fun q0 xs O1 => ∃ (δ : Type) (Pv : Nat → δ → Prop) (Γf : δ → Gm) (Of : δ → List Own), (∃ d, Pv 0 d ∧ Wk Γ (Γf d) ∧ O1 = Of d) ∧ (∀ i d, Pv i d → (⟨q0, oLst ra, xs⟩ : Own) ∈ Of d) ∧
      (∀ g i x d, xs[i]? = some x → Pv i d → DG (Us X) K (B.push g) (Γf d) (Of d) tg ra x js fun Γ' => DS X K (B.push g) Γ' (Of d) body (LpE X K (B.push g) (Pv (i + 1)) Γf Of rest D)) ∧
      (∀ d, Pv xs.length d → DS X K B (Γf d) (Of d) rest D))
    (hp : PassesOwn (model X.prog X.w) X.A X.env X.xe := by first | exact PassesOwn.never | assumption) (hs : ∀ x, foldedSetIterable iter X.env x = pure x := by intro _; rfl) : DS X K B Γ O (.For tg iter body [] pos :: rest) D := by
  intro σ G H W
  refine WSs.cons (ps_for hp (fam.cm ()) (WI.pi (F := Us X) ()) (WG.pg (F := Us X) ()) (WSs.pss (X := X)) hs) ?_
  refine h σ G H W _ fun q0 xs O1 G1 H1 ⟨δ, Pv, Γf, Of, ⟨d0, p0, w0, o0⟩, hmem, hst, hd⟩ _ W1 _ => ?_
  refine ⟨fun i m σ H => m = xs.length - i ∧ i ≤ xs.length ∧ LpJ K (B.push G1) (Pv i) Γf Of σ H, ⟨xs.length, by simp, Nat.zero_le _, d0, G1, p0, ?_⟩, ?_⟩
  · rw [← o0]
    exact (W1.wk w0).base
  rintro i m σ2 H2 ⟨rfl, hi, d, G2, pd, W2⟩
  by_cases hlt : i < xs.length
  · refine .inr ⟨own_go (hmem i d pd) W2 hlt, LpJ K (B.push G1) (Pv (i + 1)) Γf Of, fun σ' H' j => ⟨xs.length - (i + 1), by omega, rfl, hlt, j⟩, fun v H3 y => ?_⟩
    obtain ⟨x, G3, hx, s3, r3⟩ := own_yld (hmem i d pd) W2 hlt y
    exact hst G1 i x d hx pd σ2 G3 H3 v (W2.step s3) r3 _ fun Γ' σ' q W' _ => q σ' G3 H3 W'
  · obtain rfl : i = xs.length := by omega
    exact .inl ⟨own_stop (hmem _ d pd) W2, hd d pd σ2 G2 H2 W2.unbase⟩
end
end Sk
set_option Elab.async false
set_option linter.all false
set_option maxRecDepth 100000
set_option maxHeartbeats 4100000
/-! Sk16: comparisons in a row, as values. -/
namespace L2
open PySem PySem.Spec PyProof.Rows
end L2
namespace Sk
open PySem L2 Evl
end Sk
set_option Elab.async false
set_option linter.all false
set_option maxRecDepth 100000
set_option maxHeartbeats 4100000
/-! Sk17: a comprehension in a comprehension; small rules. -/
namespace Sk
open PySem L2 Evl
theorem lookup_rel {env : Env} : ∀ {names : List (Str × NameKind)} {x : Str}, names.lookup x = some .cell ∨ names.lookup x = some .free →
    (names.map fun (n, k) => if (k == NameKind.free && env.scope.kind == .function && env.kindOf n == some .cell) then (n, NameKind.cell) else (n, k)).lookup x = some .cell ∨
    (names.map fun (n, k) => if (k == NameKind.free && env.scope.kind == .function && env.kindOf n == some .cell) then (n, NameKind.cell) else (n, k)).lookup x = some .free
  | [], _, h => by simp at h
  | (n, k) :: r, x, h => by
    have ih := @lookup_rel env r x
    show List.lookup x ((if (k == NameKind.free && env.scope.kind == .function && env.kindOf n == some .cell) = true then (n, NameKind.cell) else (n, k)) :: _) = _ ∨ List.lookup x ((if (k == NameKind.free && env.scope.kind == .function && env.kindOf n == some .cell) = true then (n, NameKind.cell) else (n, k)) :: _) = _
    cases hx : x == n with
    | true =>
      simp only [List.lookup_cons, hx] at h
      by_cases hc : (k == NameKind.free && env.scope.kind == .function && env.kindOf n == some .cell) = true
      · rw [if_pos hc]
        simp [List.lookup_cons, hx]
      · rw [if_neg hc]
        simp only [List.lookup_cons, hx]
        exact h
    | false =>
      simp only [List.lookup_cons, hx] at h
      by_cases hc : (k == NameKind.free && env.scope.kind == .function && env.kindOf n == some .cell) = true
      · rw [if_pos hc]; simp only [List.lookup_cons, hx]; exact ih h
      · rw [if_neg hc]; simp only [List.lookup_cons, hx]; exact ih h
/-- a block in a block: what it takes from outside stands in the outer block -/
theorem blkOk_in {N : List Str} {outer inner : Scope} {env : Env} {own : List (Str × Nat)} (h : BlkOk N outer inner own) : BlkOk N (relabel outer env) inner own :=
  ⟨h.kind, h.uniq, h.ix, fun y hy e => lookup_rel (h.free y hy e), h.own⟩
end Sk
set_option Elab.async false
set_option linter.all false
set_option maxRecDepth 100000
set_option maxHeartbeats 4100000
/-! Sk18: what a promise hands out is new; sorted keys of a dict. -/
namespace Sk
open PySem L2 Evl
section
variable {K : Fg} {B : Bs} {Γ : Gm} {O : List Own} {α β : Type} {ra : RpF α} {rb : Rp β} {pre : α → Prop} {own : α → List Own} {post : α → β → List Own → Prop} {T : List Addr}
theorem sw_mF {x : α} {Φ : β → List Own → Prop} (R : List Own) (hp : pre x) (hO : ∀ w ∈ own x ++ R, w ∈ O) (hn : (O.map (·.a)).Nodup → ((own x ++ R).map (·.a)).Nodup) (h : ∀ y O', post x y O' → (O'.map (·.a)).Nodup → (∀ w ∈ O', w.a ∉ (own x).map (·.a) → w.a ∉ B.M) → Φ y (O' ++ R))
    (hT : ∀ P ∈ T, P ∈ B.T := by first | exact fun _ h => h | (intro _ h; cases h)) : SW K B Γ O (spM K T ra pre own rb post) [] ra x rb Φ := by
  intro σ G H vs W rv Q q
  have W' : Ws K B Γ (own x ++ R) σ G H := W.perm hO hn
  have nd' := W'.nd
  rw [List.map_append] at nd'
  refine ⟨G, x, W.sub, fun P hP => W.tab P (hT P hP), by rw [List.append_nil]; exact rv, hp, fun w hw => ?_, (List.nodup_append.mp nd').1, fun v y O' G' H' s hO' hn' r hpost => ?_⟩
  · obtain ⟨h1, h2, h3, _⟩ := W'.own w (List.mem_append_left _ hw)
    exact ⟨h1, h2, fun z => h3 (hT _ z)⟩
  · have hM : ∀ c ∈ (own x).map (·.a), (c ∈ B.M ∨ B.H0 c = none) ∧ c ∉ B.T := fun c hc => by
      obtain ⟨w, hw, e⟩ := List.mem_map.mp hc
      obtain ⟨_, _, h3, h4⟩ := W'.own w (List.mem_append_left _ hw)
      rw [← e]
      exact ⟨h4.symm, h3⟩
    have s2 := s.tsub hT fun P hP => (hM P hP).2
    refine q y (O' ++ R) v G' H' (h y O' hpost hn' fun w hw hnn => W.notM ((hO' w hw).2.2.2.resolve_right hnn)) ⟨W.st.trans s2 fun c hc => (hM c hc).1, fun P hP => ⟨s2.tab P hP (W.tab P hP).1, ?_⟩, fun g hg => (W.bs g hg).trans s.g, W.env.mono s.g, fun w hw => ?_, ?_, W.mh⟩ s.g r
    · cases e : G' P with
      | none => rfl
      | some o =>
        have z := s.fr P (W.tab P hP).2 (by rw [e]; simp)
        obtain ⟨⟨ps, h1, _⟩, _⟩ := W.tab P hP
        rw [h1] at z
        cases z
    · rcases List.mem_append.mp hw with z | z
      · obtain ⟨h1, h2, h3, h4⟩ := hO' w z
        refine ⟨h1, h2, fun hw' => ?_, ?_⟩
        · by_cases hT' : w.a ∈ T
          · exact h3 hT'
          · rcases h4 with h4 | h4
            · obtain ⟨⟨ps, g1, _⟩, _⟩ := W.tab _ hw'
              rw [g1] at h4
              cases h4
            · exact (hM _ h4).2 hw'
        · rcases h4 with h4 | h4
          · exact .inl (W.free h4)
          · exact (hM _ h4).1.symm
      · obtain ⟨⟨o, h1, h2⟩, h3, h4, h5⟩ := W'.own w (List.mem_append_right _ z)
        have nM : w.a ∉ (own x).map (·.a) := fun c => (List.nodup_append.mp nd').2.2 _ c _ (List.mem_map.mpr ⟨w, z, rfl⟩) rfl
        refine ⟨⟨o, s2.h _ _ h1 h4 nM, w.r.mono s.g h2⟩, ?_, h4, h5⟩
        cases e : G' w.a with
        | none => rfl
        | some u =>
          have z := s.fr _ h3 (by rw [e]; simp)
          rw [h1] at z
          cases z
    · rw [List.map_append]
      refine List.nodup_append.mpr ⟨hn', (List.nodup_append.mp nd').2.1, fun c hc d hd e => ?_⟩
      subst e
      obtain ⟨w, hw, ew⟩ := List.mem_map.mp hc
      obtain ⟨w2, hw2, ew2⟩ := List.mem_map.mp hd
      obtain ⟨_, _, _, h4⟩ := hO' w hw
      obtain ⟨⟨o, h1, _⟩, _⟩ := W'.own w2 (List.mem_append_right _ hw2)
      rw [ew2, ← ew] at h1
      rcases h4 with h4 | h4
      · rw [h1] at h4
        cases h4
      · rw [ew] at h4
        exact (List.nodup_append.mp nd').2.2 c h4 c hd rfl
end
section
variable {K : Fg} {B : Bs} {Γ : Gm} {O : List Own} {α β γ : Type} {ra : RpF α} {rb : Rp β} {pre : α → Prop} {T : List Addr}
theorem sw_gF {x : α} {q : Addr} {δ : Type} {r : Ow δ} {d : δ} {f : Own → List Own} {own : α → Own} {post : α → β → List Own → Prop} {Φ : β → List Own → Prop} [ho : OwnAt O q r d f] (hp : pre x) (h : ∀ y O', post x y O' → ∃ L, O' = L ++ [own x] ∧ ((∀ w ∈ L, w.a ∉ B.M) → Φ y (L ++ O))) (e : own x = ⟨q, r, d⟩ := by rfl)
    (hT : ∀ P ∈ T, P ∈ B.T := by first | exact fun _ h => h | (intro _ h; cases h)) : SW K B Γ O (spM K T ra pre (fun x => [own x]) rb post) [] ra x rb Φ := by
  obtain ⟨j, h1, _⟩ := ho.at_
  have hl : j < O.length := (List.getElem?_eq_some_iff.mp h1).1
  have hg : O[j] = own x := by
    rw [e]
    exact (List.getElem?_eq_some_iff.mp h1).2
  intro σ G H vs W rv Q q'
  have split : O = O.take j ++ own x :: O.drop (j + 1) := by
    rw [← hg]
    exact (List.take_append_drop j O).symm.trans (by rw [List.drop_eq_getElem_cons hl])
  have perm : ([own x] ++ (O.take j ++ O.drop (j + 1))).Perm O := by
    have p1 : (O.take j ++ own x :: O.drop (j + 1)).Perm (own x :: (O.take j ++ O.drop (j + 1))) := List.perm_middle
    exact p1.symm.trans (by rw [← split])
  refine sw_mF (Φ := fun y O' => ∃ L, O' = L ++ [own x] ++ (O.take j ++ O.drop (j + 1)) ∧ Φ y (L ++ O)) (O.take j ++ O.drop (j + 1)) hp (fun v hv => perm.mem_iff.mp hv) (fun z => ((perm.map (·.a)).nodup_iff).mpr z) (fun y O' p pn pf => ?_) hT σ G H vs W rv Q fun z O' u G' H' ⟨L, k1, k2⟩ W' e' r' => q' z (L ++ O) u G' H' k2 ?_ e' r'
  · obtain ⟨L, e1, e2⟩ := h y O' p
    refine ⟨L, by rw [e1], e2 fun w hw => pf w (by rw [e1]; exact List.mem_append_left _ hw) fun z => ?_⟩
    have ez : w.a = (own x).a := by simpa using z
    rw [e1, List.map_append] at pn
    exact (List.nodup_append.mp pn).2.2 w.a (List.mem_map.mpr ⟨w, hw, rfl⟩) (own x).a (by simp) ez
  · subst k1
    have perm2 : (L ++ [own x] ++ (O.take j ++ O.drop (j + 1))).Perm (L ++ O) := by
      rw [List.append_assoc]
      exact perm.append_left L
    exact W'.perm (fun v hv => perm2.mem_iff.mpr hv) fun z => ((perm2.map (·.a)).nodup_iff).mp z
theorem sw_1NF {x : α} {q : Addr} {δ ε : Type} {r : Ow δ} {d : δ} {f : Own → List Own} {own : α → Own} {r' : Ow ε} {post : α → ε → Prop} {Φ : Addr → List Own → Prop} [ho : OwnAt O q r d f] (hp : pre x) (h : ∀ p d', post x d' → p ∉ B.M → Φ p (⟨p, r', d'⟩ :: O)) (e : own x = ⟨q, r, d⟩ := by rfl)
    (hT : ∀ P ∈ T, P ∈ B.T := by first | exact fun _ h => h | (intro _ h; cases h)) : SW K B Γ O (sp1N K T ra pre own r' post) [] ra x rAdr Φ :=
  sw_gF (ho := ho) hp (fun y O' ⟨d', p, e2⟩ => ⟨[⟨y, r', d'⟩], by rw [e2]; rfl, fun hf => h y d' p (hf _ List.mem_cons_self)⟩) e hT
theorem sw_nF {x : α} {δ : Type} {r' : Ow δ} {post : α → δ → Prop} {Φ : Addr → List Own → Prop} (hp : pre x) (h : ∀ q d, post x d → q ∉ B.M → Φ q (⟨q, r', d⟩ :: O)) (hT : ∀ P ∈ T, P ∈ B.T := by first | exact fun _ h => h | (intro _ h; cases h)) : SW K B Γ O (spN K T ra pre r' post) [] ra x rAdr Φ :=
  sw_mF O hp (fun w hw => hw) (fun z => z) (fun q O' ⟨d, p, e⟩ _ hf => by subst e; exact h q d p (hf _ List.mem_cons_self (by simp))) hT
end
section
variable {ι : Type} {F : ι → Cx} {K : Fg} {B : Bs} {Γ : Gm} {O : List Own} {α β : Type} {ra : Rp α} {rb : Rp β}
variable {P : Program} {w : World} {mg : Str → Option Value} {base : Heap} {k : Nat}
theorem all2_str : ∀ ys : List Str, All2 (fun v x => v = V.str x) (ys.map V.str) ys
  | [] => trivial
  | _ :: ys => ⟨rfl, all2_str ys⟩
theorem dic_keys {p : V → β → Prop} : ∀ {kvs : List (Key × V)} {xs : List (Key × β)}, DicR p kvs xs → kvs.map (·.1) = xs.map (·.1)
  | [], [], _ => rfl
  | _ :: _, _ :: _, ⟨a, _, c⟩ => by rw [List.map_cons, List.map_cons, a, dic_keys c]
  | [], _ :: _, z => z.elim
  | _ :: _, [], z => z.elim
/-- sorted(d), the keys texts -/
theorem c_sortedD {x : α} {xs : List (Key × β)} {ks : List Str} [hd : DkR O ra x rb xs] {Φ : List Str → List Own → Prop} (hk : xs.map (·.1) = ks.map Sum.inr) (hl : ks.length < 64) (kk : ∀ ys, ys.Perm ks → PyProof.Rows.sortedS ys = true → Φ ys O)
    (hc : ∀ j, (F j).calm = true := by intro _; rfl) : CW F K B Γ O (.builtin "sorted") (fOne ra) x (rLst rStr) Φ := fun σ G H vs W ⟨v, e, rv⟩ Q q => by
  obtain ⟨c, kvs, h1, h2, h3⟩ := hd.get W rv
  refine ⟨_, fun j => call_sortedD (hc j), c, kvs, ks, by rw [e, h1], .inl h2, by rw [dic_keys h3]; exact hk, hl, fun ys p hp hs hn => ?_⟩
  have s : Stp B.T [] G H (upd G p (.lst (ys.map V.str))) (upd H p (.lst (ys.map V.str))) := Stp.new W.sub hn
  exact q ys O _ _ _ (kk ys hp hs) (W.step s) s.g ⟨p, _, rfl, upd_same, all2_str ys⟩
theorem bt_sorted : bootBuiltins "sorted" = some (.builtin "sorted") := by decide +kernel
end
end Sk
set_option Elab.async false
set_option linter.all false
set_option maxRecDepth 100000
set_option maxHeartbeats 4100000
/-! Sk19: max, min of three; the truth of a list; things that may be None, compared. -/
namespace Sk
open PySem L2 Evl
section
variable {ι : Type} {F : ι → Cx} {K : Fg} {B : Bs} {Γ : Gm} {O : List Own} {α β : Type} {ra : Rp α} {rb : Rp β} {e : Expr}
/-- a tuple or None, compared -/
instance datOptT {f : RpF β} {enc : β → List PyData} {m : Nat} {good : β → Prop} [hf : DatF f enc m good] : Dat (rOpt (rTup f)) (fun x => match x with | none => PyData.none | some y => PyData.tuple (enc y)) (m + 1) (fun x => ∀ y, x = some y → good y) :=
  ⟨fun {K G H v x} e h => by
    cases x with
    | none =>
      rw [show v = V.non from h]
      exact .non
    | some y => exact (datTup (f := f)).dp e h.2, fun {x} h => by
    cases x with
    | none => rfl
    | some y => exact (datTup (f := f)).lay (h y rfl), fun x => by
    cases x with
    | none => exact Nat.zero_le _
    | some y => exact (datTup (f := f)).dep y, fun x y => by
    cases x with
    | none =>
      cases y with
      | none => exact ⟨fun _ => rfl, fun _ => rfl⟩
      | some b => exact ⟨fun h => Bool.noConfusion (show false = true from h), fun h => by cases h⟩
    | some a =>
      cases y with
      | none => exact ⟨fun h => Bool.noConfusion (show false = true from h), fun h => by cases h⟩
      | some b =>
        refine ((datTup (f := f)).eqv a b).trans ?_
        exact ⟨fun h => by rw [h], fun h => Option.some.inj h⟩⟩
end
section
variable {α β γ δ : Type}
instance (priority := high) fsetL {f : RpF α} {r : Rp β} {n : Nat} [h : Len f n] : FSet (fApp f r) n r (fun x y => (x.1, y)) := ⟨fun ⟨ws, v, h1, h2, h3⟩ q => ⟨ws, _, by
  rw [h1, ← h.len h2, List.set_append_right _ _ (Nat.le_refl _), Nat.sub_self]
  rfl, h2, q⟩⟩
instance (priority := low) fsetI {f : RpF α} {r : Rp β} {i : Nat} {r' : Rp γ} {g : α → γ → α} {r2 : Rp δ} {g2 : α → δ} [h : FSet f i r' g] [h' : FAt f i r2 g2] : FSet (fApp f r) i r' (fun x y => (g x.1 y, x.2)) := ⟨fun ⟨ws, v, h1, h2, h3⟩ q => ⟨_, v, by
  obtain ⟨u, h4, _⟩ := h'.get h2
  rw [h1, List.set_append_left _ _ (List.getElem?_eq_some_iff.mp h4).1], h.set h2 q, h3⟩⟩
end
end Sk
set_option Elab.async false
set_option linter.all false
set_option maxRecDepth 100000
set_option maxHeartbeats 4100000
/-! Sk20: t + u of tuples. -/
namespace Sk
open PySem L2 Evl
section
variable {ι : Type} {F : ι → Cx} {K : Fg} {B : Bs} {Γ : Gm} {O : List Own} {α β : Type} {ra : Rp α} {rb : Rp β} {e : Expr}
theorem o_catT {xs ys : List β} {Φ : List β → List Own → Prop} (hx : xs ≠ []) (hy : ys ≠ []) (hz : xs.length + ys.length ≤ sizeLine) (kk : Φ (xs ++ ys) O) (hK : ∀ j, (F j).K = K := by intro _; rfl) : OW F K B Γ O (binaryOp .Add) (rTpv rb) (rTpv rb) xs ys (rTpv rb) Φ := by
  intro σ G H v u W ⟨c, vs, a1, a2, a3⟩ ⟨d, us, b1, b2, b3⟩ Q q
  have n1 : vs ≠ [] := fun e => by
    have := a3.length
    rw [e] at this
    exact hx (List.eq_nil_of_length_eq_zero this.symm)
  have n2 : us ≠ [] := fun e => by
    have := b3.length
    rw [e] at this
    exact hy (List.eq_nil_of_length_eq_zero this.symm)
  refine ⟨rCatT K, fun j => by rw [← hK j]; exact op_catT, c, d, vs, us, a1, b1, ex_t W.sub a2, ex_t W.sub b2, n1, by rw [a3.length, b3.length]; exact hz, fun e => absurd e n2, fun _ p hp => ?_⟩
  have s : Stp B.T [] G H (upd G p (.tup (vs ++ us))) (upd H p (.tup (vs ++ us))) := Stp.new W.sub hp
  exact q _ O _ _ _ kk (W.step s) s.g ⟨p, _, rfl, SqT.of upd_same, (a3.append b3).mono fun _ _ z => rb.mono s.g z⟩
end
end Sk
set_option Elab.async false
set_option linter.all false
set_option maxRecDepth 100000
set_option maxHeartbeats 4100000
/-! Sk21: own exceptions over ValueError whose __init__ begins with super().__init__(e). -/
namespace Sk
open PySem PySem.Spec PyProof.Rows L2 NdefX PySem.W
end Sk
set_option Elab.async false
set_option linter.all false
set_option maxRecDepth 100000
set_option maxHeartbeats 4100000
/-! Sk22: raise, defs that may raise, try. -/
namespace Sk
open PySem L2 Evl
/-! ### messages of texts and ints -/
/-! ### an own exception's data -/
/-- what is told by typed things without the heap -/
class Raw {α : Type} (g : RpF α) (f : outParam (α → List V)) : Prop where
  raw : ∀ {K : Fg} {G : Hp} {vs : List V} {x : α}, g.rep K G vs x → vs = f x
class Raw1 {α : Type} (r : Rp α) (f : outParam (α → V)) : Prop where
  raw : ∀ {K : Fg} {G : Hp} {v : V} {x : α}, r.rep K G v x → v = f x
instance raw1S : Raw1 rStr V.str := ⟨fun h => h⟩
instance raw1I : Raw1 rInt V.int := ⟨fun h => h⟩
instance rawOne {α : Type} {r : Rp α} {f : α → V} [h : Raw1 r f] : Raw (fOne r) (fun x => [f x]) := ⟨fun ⟨v, e, q⟩ => by rw [e, h.raw q]⟩
instance rawCons {α β : Type} {r : Rp α} {f : α → V} {g : RpF β} {f' : β → List V} [h : Raw1 r f] [h' : Raw g f'] : Raw (fCons r g) (fun x => f x.1 :: f' x.2) := ⟨fun ⟨v, ws, e, q, q'⟩ => by rw [e, h.raw q, h'.raw q']⟩
section
variable {P : Program} {w : World} {K : Fg} {mg : Str → Option Value} {base : Heap} {k : Nat} {B : Bs} {Γ : Gm} {O : List Own}
/-! ### promises with exceptions -/
/-! ### try -/
abbrev ιT (X : Cx) (W : WX) : Type := { i : List (Addr × Obj) × (Value → Shared → Prop) // Takes (X.tr i.1 i.2) W ∧ PassesOwn (model X.prog X.w) X.A X.env i.2 }
abbrev Ft (X : Cx) (W : WX) : ιT X W → Cx := fun i => X.tr i.1.1 i.1.2
instance famT {X : Cx} {W : WX} [fam : Fam (Us X) P w K mg base k] : Fam (Ft X W) P w K mg base k := ⟨fun _ => fam.pr (), fun _ => fam.wd (), fun _ => fam.ka (), fun _ => fam.mg (), fun _ => fam.bs (), fun _ => fam.rm (), fun _ => fam.cm (), fun _ => fam.nd ()⟩
end
end Sk
set_option Elab.async false
set_option linter.all false
set_option maxRecDepth 100000
set_option maxHeartbeats 4100000
/-! Sk23: enumerate(xs), list(range(a, b)), the first two of a tuple. -/
namespace Sk
open PySem L2 Evl
def enm {α : Type} (xs : List α) : List (Int × α) := xs.zipIdx.map fun p => ((p.2 : Int), p.1)
theorem enm_len {α : Type} (xs : List α) : (enm xs).length = xs.length := by
  unfold enm
  rw [List.length_map, List.length_zipIdx]
theorem enm_get {α : Type} {xs : List α} {i : Nat} {z : Int × α} : (enm xs)[i]? = some z ↔ ∃ x, xs[i]? = some x ∧ z = ((i : Int), x) := by
  unfold enm
  rw [List.getElem?_map, List.getElem?_zipIdx]
  cases h : xs[i]? with
  | none => simp
  | some x =>
    simp only [Option.map_some, Option.some.injEq, Nat.zero_add]
    constructor
    · intro e
      exact ⟨x, rfl, e.symm⟩
    · rintro ⟨y, e1, e2⟩
      rw [e2, e1]
section
variable {ι : Type} {F : ι → Cx} {K : Fg} {B : Bs} {Γ : Gm} {O : List Own} {α β γ : Type} {ra : Rp α} {rb : Rp β} {e a b tg : Expr} {n : Str} {p p2 pos : Pos}
variable {P : Program} {w : World} {mg : Str → Option Value} {base : Heap} {k : Nat}
theorem Gives.enum {T : List Addr} {Gb : Hp} {c : Addr} {vs : List V} {xs : List α} (h : SqL K Gb c vs) (r : All2 (ra.rep K Gb) vs xs) : Gives K T Gb (Ite K c) (rTup (fCons rInt (fOne ra))) (enm xs) where
  go := fun j G H hj e1 e2 => by
    rw [enm_len] at hj
    have h1 : j < vs.length := by rw [r.length]; exact hj
    exact ⟨vs, vs[j], ex_l (e1.trans e2) h, List.getElem?_eq_getElem h1⟩
  stop := fun G H e1 e2 => by
    refine ⟨vs, ex_l (e1.trans e2) h, ?_⟩
    rw [enm_len, r.length]
    exact Nat.le_refl _
  yld := fun j G H v H' hj e1 e2 ⟨t, x, h1, h2, h3, h4⟩ => by
    subst h1 h3
    have hx := h4 vs (ex_l (e1.trans e2) h)
    obtain ⟨y, hy, rep⟩ := r.get hx
    have s : Stp T [] G H (upd G t (.tup [.int (j : Nat), x])) (upd H t (.tup [.int (j : Nat), x])) := Stp.new e2 h2
    exact ⟨((j : Int), y), _, enm_get.mpr ⟨y, hy, rfl⟩, s, t, _, rfl, SqT.of upd_same, _, [x], rfl, rfl, x, rfl, ra.mono (e1.trans s.g) rep⟩
theorem w_enum [fam : Fam F P w K mg base k] {elts : List Expr} {kk : Nat} {tpos : Pos} {Φ : List (Int × α) → List Own → Prop} (hm : mg "enumerate" = none) (h : DW F K B Γ O e (rLst ra) fun xs O1 => Φ (enm xs) O1) (hg : ∀ i, Gl (F i) "enumerate" := by intro _; rfl)
    (hs : ∀ i, starEach [e] (F i).env = [(false, eval e (F i).env)] := by intro _; rfl) : DI F K B Γ O (.Tuple elts kk tpos) (.Call (.Name "enumerate" p) [e] [] pos) (rTup (fCons rInt (fOne ra))) Φ := by
  intro σ G H W R q
  have hs2 : ∀ i, starEach [] (F i).env = [] := fun i => rfl
  refine ⟨iEnum K (tCons (WE F e) tNil), fun i => by rw [← fam.ka i]; exact pi_enum (hg i) (by rw [fam.mg i]; exact hm) (pa_cons (WE.pe i) pa_nil (by rw [hs i, hs2 i])) (hs i), ?_⟩
  exact h σ G H W _ fun xs O1 v G1 H1 h1 W1 e1 ⟨c, vs, r1, r2, r3⟩ => ⟨c, vs, by rw [r1], SqL.of (W1.sub _ _ r2), q _ _ O1 G1 H1 h1 (Gives.enum (SqL.of r2) r3) W1 e1⟩
theorem d_listRg2 [fam : Fam F P w K mg base k] {Φ : List Int → List Own → Prop} (hm : mg "list" = none) (hmr : mg "range" = none) (h : DW F K B Γ O a rInt fun i O1 => DW F K B Γ O1 b rInt fun j O2 => RgOk i j ∧ Φ (rgI i 1 (j - i).toNat) O2)
    (hg : ∀ i, Gl (F i) "list" := by intro _; rfl) (hgr : ∀ i, Gl (F i) "range" := by intro _; rfl) (hs : ∀ i, starEach [a, b] (F i).env = (false, eval a (F i).env) :: starEach [b] (F i).env := by intro _; rfl) (hs2 : ∀ i, starEach [b] (F i).env = (false, eval b (F i).env) :: starEach [] (F i).env := by intro _; rfl)
    (hpl : ∀ i, (backTo p2 (starEach [b] (F i).env)).any (·.1) = false := by intro _; rfl) (hs3 : ∀ i, starEach [.Call (.Name "range" p) [a, b] [] p2] (F i).env = (false, eval (.Call (.Name "range" p) [a, b] [] p2) (F i).env) :: starEach [] (F i).env := by intro _; rfl) {p3 : Pos} :
    DW F K B Γ O (.Call (.Name "list" p3) [.Call (.Name "range" p) [a, b] [] p2] [] pos) (rLst rInt) Φ := by
  intro σ G H W Q q
  refine ⟨tLstRg (tRg2 (WE F a) (WE F b)), fun i => pe_listRg (fam.cm i) (hg i) (by rw [fam.mg i]; exact hm) (prg_2 (hgr i) (by rw [fam.mg i]; exact hmr) (WE.pe i) (WE.pe i) (hs i) (hs2 i) (hpl i)) (hs3 i), ?_⟩
  refine h σ G H W _ fun i O1 v G1 H1 h1 W1 e1 r1 => ?_
  refine h1 σ G1 H1 W1 _ fun j O2 u G2 H2 ⟨hok, k2⟩ W2 e2 r2 => ?_
  refine ⟨i, j, r1, r2, hok, fun t ht => ?_⟩
  have s : Stp B.T [] G2 H2 (upd G2 t (.lst (rgV i j))) (upd H2 t (.lst (rgV i j))) := Stp.new W2.sub ht
  refine q _ O2 _ _ _ k2 (W2.step s) ((e1.trans e2).trans s.g) ⟨t, _, rfl, upd_same, ?_⟩
  have : rgV i j = (rgI i 1 (j - i).toNat).map V.int := by
    unfold rgV rgI
    rw [List.map_map]
    refine List.map_congr_left fun x _ => ?_
    show V.int (i + (x : Int)) = V.int (i + (x : Int) * 1)
    rw [Int.mul_one]
  rw [this]
  exact All2.of_int _
/-- the first two of a longer tuple -/
theorem sl_p2 {r1 : Rp α} {r2 : Rp β} {g : RpF γ} {m : Nat} [hl : Len g m] {x : α × β × γ} {Φ : α × β → List Own → Prop} (hm : 0 < m) (kk : Φ (x.1, x.2.1) O) (hK : ∀ j, (F j).K = K := by intro _; rfl) : SLW F K B Γ O (rTup (fCons r1 (fCons r2 g))) x none (some 2) (rTup (fCons r1 (fOne r2))) Φ := by
  intro σ G H v W ⟨c, ws, h1, h2, v1, ws1, e1, q1, v2, ws2, e2, q2, q3⟩ Q q
  subst e1 e2
  have hl2 := hl.len q3
  refine ⟨rSlT K, fun j => by rw [← hK j]; exact sl_tup, c, _, h1, ex_t W.sub h2, ?_, fun p hp => ?_⟩
  · rintro ⟨_, z⟩
    have z : HT.sIx (v1 :: v2 :: ws2).length (v1 :: v2 :: ws2).length (some 2) = (v1 :: v2 :: ws2).length := z
    rw [List.length_cons, List.length_cons, hl2] at z
    unfold HT.sIx at z
    simp at z
    omega
  · have hc : cutV (v1 :: v2 :: ws2) none (some 2) = [v1, v2] := by
      unfold cutV HT.sIx
      simp
    rw [hc]
    have s : Stp B.T [] G H (upd G p (.tup [v1, v2])) (upd H p (.tup [v1, v2])) := Stp.new W.sub hp
    exact q _ O _ _ _ kk (W.step s) s.g ⟨p, _, rfl, SqT.of upd_same, v1, [v2], rfl, r1.mono s.g q1, v2, rfl, r2.mono s.g q2⟩
end
end Sk
set_option Elab.async false
set_option linter.all false
set_option maxRecDepth 100000
set_option maxHeartbeats 4100000
/-! Sk24: a new object of one's own is handed out, or an exception leaves. -/
namespace Sk
open PySem L2 Evl
end Sk
set_option Elab.async false
set_option linter.all false
set_option maxRecDepth 100000
set_option maxHeartbeats 4100000
/-! Sk25: enumerate of a tuple. -/
namespace Sk
open PySem L2 Evl PyProof.Rows
/-! ### a list times an int -/
end Sk
set_option Elab.async false
set_option linter.all false
set_option maxRecDepth 100000
set_option maxHeartbeats 4100000
/-! Sk26: except C as e: return .. e.f .. -/
namespace Sk
open PySem L2 Evl
end Sk
set_option Elab.async false
set_option linter.all false
set_option maxRecDepth 100000
set_option maxHeartbeats 4100000
/-! Sk27: for i, x in enumerate(xs), xs a list of one's own. -/
namespace Sk
open PySem L2 Evl
end Sk
set_option Elab.async false
set_option linter.all false
set_option maxRecDepth 100000
set_option maxHeartbeats 4100000
/-! Sk28: the frame of a generator expression. -/
namespace Sk
open PySem L2 Evl PyProof.Rows
/-- the context of a generator expression's frame; s, H: what stood ahead of it -/
abbrev gxX (X : Cx) (A' : Around) (s : Shared) (H : Hp) (ce : Env) (fp : List Addr) : Cx :=
  { X with A := A', s_0 := s, H_0 := H, env := ce, outer := X.stack, stack := ce :: X.stack, ex := fp, fn := fun _ => false, pn := [], xe := fun _ _ => False }
structure GxOk (N : List Str) (sc scope : Scope) (own : List (Str × Nat)) : Prop where
  blk : BlkOk N sc scope own
  co : scope.isCoroutine = false
  cell : ∀ y ∈ scope.names, y.2 ≠ .cell
  dot : scope.names.lookup (".0" : Str) = some NameKind.local
section
variable {X : Cx} {pins : List (Addr × Obj)} {σ : L2.St} {H : Hp} {s : Shared}
theorem gx_cells {cells : List (Str × Addr)} {scope : Scope} (hf : ∀ y ∈ scope.names, y.2 = .free → ∃ c, cells.lookup y.1 = some c) {y : Str} {c : Addr} (e : (cloFrom cells scope.names []).lookup y = some c) : cells.lookup y = some c ∧ (y, NameKind.free) ∈ scope.names := by
  rcases cloFrom_mem (PySem.mem_of_lookup e) with h | ⟨h1, h2⟩
  · cases h
  · obtain ⟨c', hc⟩ := hf _ h1 rfl
    have hc : cells.lookup y = some c' := hc
    rw [hc] at h2
    have h2 : c = c' := h2
    rw [h2]
    exact ⟨hc, h1⟩
theorem gx_start {A' : Around} {scope : Scope} {own : List (Str × Nat)} {fp : List Addr} {code : Value} {h5 : Heap} {gs : GenState} {tk : Nat} {a : Addr} {go : Obj} {mm : Str → Option Value} (I : Inv X pins σ H s) (ok : GxOk X.N X.env.scope scope own) (hN : X.N.Nodup)
    (hfp : ∀ b ∈ fp, FpOk X pins H b ∧ b < s.heap.objs.size) (hA : X.calm = true → A'.handled = none) (hA2 : A'.frames = some (genEnv scope (cloFrom X.env.cells scope.names []) s.heap.objs.size code builtinsNs X.env :: X.stack))
    (hgs : gs.bare = true) (hk : ∀ b o, s.heap.get? b = some o → h5.get? b = some o) (hns : h5.Ns s.heap.objs.size mm) (ha : h5.get? a = some go) (ha2 : s.heap.objs.size < a) (hgo : ∀ v, go.data ≠ .cell v) :
    Inv (gxX X A' s H (genEnv scope (cloFrom X.env.cells scope.names []) s.heap.objs.size code builtinsNs X.env) fp) [(a, go)] (wipe σ (own.map (·.2))) H { s with gens := s.gens.push gs, toks := tk, heap := h5 } := by
  have hf : ∀ y ∈ scope.names, y.2 = .free → ∃ c, X.env.cells.lookup y.1 = some c := fun y hy e => (ok.blk.free y hy e).elim (fun k => I.ok.has _ (.inl k)) (fun k => I.ok.has _ (.inr k))
  generalize hce : genEnv scope (cloFrom X.env.cells scope.names []) s.heap.objs.size code builtinsNs X.env = ce at hA2
  have eL : ce.locals = s.heap.objs.size := by rw [← hce]; rfl
  have eC : ce.cells = cloFrom X.env.cells scope.names [] := by rw [← hce]; rfl
  have eS : ce.scope = scope := by rw [← hce]; rfl
  have cm : ∀ {y c}, ce.cells.lookup y = some c → X.env.cells.lookup y = some c := fun {y c} e => by
    rw [eC] at e
    exact (gx_cells hf e).1
  have nof : ∀ {x : Str}, scope.names.lookup x = some .cell → False := fun {x} h => ok.cell _ (PySem.mem_of_lookup h) rfl
  have okB : (gxX X A' s H ce fp).Ok := by
    refine { mod := I.ok.mod, kind := ?_, glob := ?_, blt := ?_, above := ?_, inj := ?_, has := ?_, cab := ?_, hd := hA, frames := hA2, stk := .inr ⟨rfl, ?_⟩, exf := ?_, bs := I.bs, bsz := Nat.le_trans I.ok.bsz I.sz, noex := ?_, exfs := ?_, funs := I.stack, frf := I.stkFree }
    · show ce.scope.kind = _
      rw [eS]
      exact ok.blk.kind
    · show ce.globals = _
      rw [← hce]
      exact I.ok.glob
    · show ce.builtins = _
      rw [← hce]
      rfl
    · show s.heap.objs.size ≤ ce.locals
      rw [eL]
      exact Nat.le_refl _
    · intro x y c e1 e2
      exact I.ok.inj x y c (cm e1) (cm e2)
    · intro x hx
      show ∃ c, ce.cells.lookup x = some c
      have hx : ce.scope.names.lookup x = some .cell ∨ ce.scope.names.lookup x = some .free := hx
      rw [eS] at hx
      rcases hx with hx | hx
      · exact (nof hx).elim
      · rw [eC]
        exact mem_lookup (cloFrom_has (cells := X.env.cells) (acc := []) (PySem.mem_of_lookup hx))
    · intro x c z _
      exact absurd z Bool.false_ne_true
    · show ce.frame = some ce.locals
      rw [← hce]
      rfl
    · intro b hb
      refine ⟨?_, fun x c e z => ?_⟩
      · show b ≠ ce.locals
        rw [eL]
        exact Nat.ne_of_lt (hfp b hb).2
      · exact (hfp b hb).1.2.2.2.2.1 x c (cm e) z
    · intro b o e hb
      rcases (hfp b hb).1.2.2.2.1 with z | z
      · exact I.ok.noex b o e z
      · exact Nat.lt_irrefl _ (Nat.lt_of_lt_of_le (Heap.lt_size e) (Nat.le_trans I.ok.bsz z))
    · intro b hb z
      rcases List.mem_cons.mp (I.stkSub b z) with q | q
      · exact (hfp b hb).1.2.1 q
      · exact (hfp b hb).1.2.2.1 q
  have hH : ∀ {b : Addr}, s.heap.objs.size ≤ b → H b = none := fun h => I.hok.fresh h
  refine { ok := okB, os := rfl, bare := ?_, base := Un.kept hk, loc := ⟨mm, ?_, fun i y av e1 e2 e3 => ?_⟩, cell := fun y c e => ?_, free := ?_, freeC := fun y c e => I.freeC y c (cm e), pin := fun p hp => ?_, hok := I.hok.kept hk, len := by rw [wipe_length]; exact I.len }
  · intro x hx
    rcases Array.mem_push.mp hx with z | z
    · exact I.bare x z
    · rw [z]
      exact hgs
  · show h5.Ns ce.locals mm
    rw [eL]
    exact hns
  · obtain ⟨e4, e5⟩ := wipe_some e2
    have e1 : X.N[i]? = some y := e1
    have hfr : scope.names.lookup y = some .free := by
      have own : scope.names.lookup y = some .local → False := fun h => by
        rcases ok.blk.own _ (PySem.mem_of_lookup h) (.inl rfl) with q | q
        · obtain ⟨p, hp, hpy⟩ := List.mem_map.mp q
          have q2 := ok.blk.ix p hp
          rw [show p.1 = y from hpy] at q2
          exact e5 (List.mem_map.mpr ⟨p, hp, nodup_ix hN q2 e1⟩)
        · exact q (List.mem_of_getElem? e1)
      have e3 : Vis ce.scope y := e3
      rw [eS] at e3
      rcases e3 with h | h | h
      · exact (own h).elim
      · exact (nof h).elim
      · exact h
    have hfm := PySem.mem_of_lookup hfr
    obtain ⟨m, hn, hl⟩ := I.loc
    have hv : Vis X.env.scope y := (ok.blk.free _ hfm rfl).elim (fun k => .inr (.inl k)) (fun k => .inr (.inr k))
    obtain ⟨u, ru, q⟩ := hl i y av e1 e4 hv
    obtain ⟨c, hc⟩ := mem_lookup (cloFrom_has (cells := X.env.cells) (acc := []) hfm)
    have hc2 := (gx_cells hf hc).1
    refine ⟨u, ru, .inr ⟨.inr (by show ce.scope.names.lookup y = _; rw [eS]; exact hfr), c, by show ce.cells.lookup y = _; rw [eC]; exact hc, ?_⟩⟩
    rcases q with ⟨k, _⟩ | ⟨_, c', e', z⟩
    · have k : X.env.scope.names.lookup y = some .local := k
      rcases ok.blk.free _ hfm rfl with k' | k'
      · rw [show X.env.scope.names.lookup y = _ from k'] at k
        cases k
      · rw [show X.env.scope.names.lookup y = _ from k'] at k
        cases k
    · rw [hc2] at e'
      cases e'
      exact z.keeps hk
  · obtain ⟨v, z⟩ := I.cell y c (cm e)
    exact ⟨v, z.keeps hk⟩
  · show H ce.locals = none
    rw [eL]
    exact hH (Nat.le_refl _)
  · have e : p = (a, go) := by
      rcases List.mem_append.mp hp with z | z
      · cases z
      · exact List.mem_singleton.mp z
    subst e
    refine ⟨ha, hH (Nat.le_of_lt ha2), ?_, fun z => (List.mem_cons.mp (I.stkSub _ z)).elim (fun q => Nat.lt_irrefl _ (by have h1 := I.lt; rw [← q] at h1; exact Nat.lt_trans ha2 h1)) (fun q => I.nofs (Nat.le_of_lt ha2) q), hgo⟩
    show a ≠ ce.locals
    rw [eL]
    exact Nat.ne_of_gt ha2
end
end Sk
set_option Elab.async false
set_option linter.all false
set_option maxRecDepth 100000
set_option maxHeartbeats 4100000
/-! Sk29: a generator expression that sleeps; next; any, all of one. -/
namespace Sk
open PySem L2 Evl PyProof.Rows GenW
abbrev Slp := Shared → Prop
/-- where a generator may sleep; a: its object go -/
structure SlOk (a : Addr) (go : Obj) (S : Slp) : Prop where
  lim : ∀ s, S s → s.heap.NoLimit
  at_ : ∀ s, S s → s.heap.get? a = some go
  bare : ∀ s, S s → AllBare s.gens
  gens : ∀ s G, S s → AllBare G → S { s with gens := G }
def gxY (a : Addr) (go : Obj) (Yd : Nat → V → Slp → Shared → Prop) : Protocol := fun m _ v s kap => ∃ y S, RelV y v ∧ SlOk a go S ∧ AllBare s.gens ∧ Yd m y S s ∧ ∀ s2 : Shared, S s2 → kap (.send .none) s2
def gxR (Dn : Nat → Slp) (m : Nat) (_ s1 : Shared) : Prop := AllBare s1.gens ∧ Dn m s1
theorem Inv.gens {Z : Cx} {pins : List (Addr × Obj)} {σ : L2.St} {H : Hp} {s : Shared} {G : Array GenState} (I : Inv Z pins σ H s) (h : AllBare G) : Inv Z pins σ H { s with gens := G } :=
  { ok := I.ok, os := I.os, bare := h, base := I.base, loc := I.loc, cell := I.cell, free := I.free, freeC := I.freeC, pin := I.pin, hok := I.hok, len := I.len }
section
variable {prog : Program} {w : World} {A : Around} {a : Addr} {gi : Nat} {go : Obj} {Yd : Nat → V → Slp → Shared → Prop} {Dn : Nat → Slp}
def GxLive (prog : Program) (w : World) (A : Around) (a : Addr) (go : Obj) (Yd : Nat → V → Slp → Shared → Prop) (Dn : Nat → Slp) (gi n : Nat) (s : Shared) : Prop :=
  ∃ gs S, s.gens[gi]? = some gs ∧ SlOk a go S ∧ S s ∧ ∀ s2, S s2 → gs.Goes (model prog w) A.in1 (fun m s0 r s1 => r = .ok .next ∧ gxR Dn m s0 s1) (gxY a go Yd) n (.send .none) s2
theorem gx_next {E : Value → Shared → Prop} {n : Nat} {s : Shared} (hh : A.handled = none) (hroom : A.depth < recursionLimit) (hG : ∀ h : Heap, h.get? a = some go → h.IsGen a gi) (hD : ∀ m s G h', Dn m s → AllBare G → (∀ b o, s.heap.get? b = some o → h'.get? b = some o) → Dn m { s with gens := G, heap := h' })
    (hY : ∀ m y S s G, SlOk a go S → Yd m y S s → AllBare G → Yd m y S { s with gens := G }) (hl : GxLive prog w A a go Yd Dn gi n s) :
    wpAny (model prog w) A (pyNext (.ref a)) (fun r s1 => (r = none ∧ Dn n s1) ∨ ∃ v y S, r = some v ∧ RelV y v ∧ Yd (n - 1) y S s1 ∧ (∀ s' : Shared, s'.gens = s1.gens → S s' → 0 < n ∧ GxLive prog w A a go Yd Dn gi (n - 1) s')) E s := by
  obtain ⟨gs, S, hgs, so, hs, goes⟩ := hl
  have hgl : gi < s.gens.size := (Array.getElem?_eq_some_iff.mp hgs).1
  have atR : S (s.setGen gi .running) := so.gens s _ hs (allBare_setGen (so.bare s hs) rfl)
  refine wpAny_gsz (n := gi + 1) hgl (wpAny_pyNext_genexpQ (P := gxR Dn) hh (so.lim s hs) hroom (hG _ (so.at_ s hs)) hgs (goes _ atR) (fun v s1 gs' hb hv hsz => ?_) (fun s1 hp h' hk _ => ?_))
  · obtain ⟨y, S1, r, so1, b1, yd, kap⟩ := hv
    have hsz1 : gi < s1.gens.size := by
      have q : (s1.setGen gi gs').gens.size = s1.gens.size := setGen_size _ _ _
      have z : gi + 1 ≤ (s1.setGen gi gs').gens.size := hsz
      omega
    have bare2 : AllBare (s1.setGen gi gs').gens := allBare_setGen b1 hb
    refine .inr ⟨v, y, S1, rfl, r, hY (n - 1) y S1 s1 _ so1 yd bare2, fun s' eg hS => ?_⟩
    cases n with
    | zero => exact (kap _ hS).elim
    | succ m => exact ⟨Nat.succ_pos m, gs', S1, by rw [eg]; exact setGen_at hsz1, so1, hS, kap⟩
  · obtain ⟨b1, dn⟩ := hp
    exact .inl ⟨rfl, hD n s1 _ h' dn (allBare_setGen b1 rfl) hk⟩
end
end Sk
set_option Elab.async false
set_option linter.all false
set_option maxRecDepth 100000
set_option maxHeartbeats 4100000
/-! Sk30: a generator expression runs (one clause, two clauses). -/
namespace Sk
open PySem L2 Evl PyProof.Rows
abbrev gxOne (elt tg iter : Expr) (scope : Scope) (pos : Pos) : Expr := .GeneratorExp elt [⟨tg, iter, [], 0⟩] scope pos
abbrev gxTwo (elt tg iter tg2 iter2 : Expr) (scope : Scope) (pos : Pos) : Expr := .GeneratorExp elt [⟨tg, iter, [], 0⟩, ⟨tg2, iter2, [], 0⟩] scope pos
abbrev gxC (e : Expr) (d : Nat) (it : Addr) (ce : Env) : Code := .compLoop e d (.ref it) .none ce
abbrev gx0 (e : Expr) (d : Nat) (it : Addr) (ce : Env) : Code := .compStart e d (.ref it) .none ce
theorem gx_turn1 (elt tg iter : Expr) (scope : Scope) (pos : Pos) (it acc : Value) (env : Env) : compTurn (gxOne elt tg iter scope pos) 0 it acc env = (do
      standAt iter.pos
      match ← pyNext it with
      | none => pure (.done .next)
      | some v =>
        letOwnedTupleGo tg it v
        assign tg env v
        (do let v ← eval elt env; standAt elt.pos; let _ ← yieldOut env v)
        again (.compLoop (gxOne elt tg iter scope pos) 0 it acc env)) := by rfl
theorem gx_turn2a (elt tg iter tg2 iter2 : Expr) (scope : Scope) (pos : Pos) (it acc : Value) (env : Env) : compTurn (gxTwo elt tg iter tg2 iter2 scope pos) 0 it acc env = (do
      standAt iter.pos
      match ← pyNext it with
      | none => pure (.done .next)
      | some v =>
        letOwnedTupleGo tg it v
        assign tg env v
        let x ← eval iter2 env
        standAt iter2.pos
        let x ← foldedSetIterable iter2 env x
        let _ ← runOwn (.compStart (gxTwo elt tg iter tg2 iter2 scope pos) 1 (← holding [x] (pyIter x)) acc env) env
        again (.compLoop (gxTwo elt tg iter tg2 iter2 scope pos) 0 it acc env)) := by rfl
theorem gx_turn2b (elt tg iter tg2 iter2 : Expr) (scope : Scope) (pos : Pos) (it acc : Value) (env : Env) : compTurn (gxTwo elt tg iter tg2 iter2 scope pos) 1 it acc env = (do
      standAt iter2.pos
      match ← pyNext it with
      | none => pure (.done .next)
      | some v =>
        letOwnedTupleGo tg2 it v
        assign tg2 env v
        (do let v ← eval elt env; standAt elt.pos; let _ ← yieldOut env v)
        again (.compLoop (gxTwo elt tg iter tg2 iter2 scope pos) 1 it acc env)) := by rfl
/-- a turn of the iterator is ahead -/
def gxS (Z : Cx) (pn : List (Addr × Obj)) (σw : L2.St) (fp : List Addr) (tn : Nat → Heap → Prop) (C : Nat → Hp → Prop) (i : Nat) : Slp := fun s => ∃ H, Inv Z pn σw H s ∧ tn i s.heap ∧ (∀ b ∈ fp, H b = none) ∧ C i H
section
variable {Z : Cx} {pn : List (Addr × Obj)} {σw : L2.St} {fp : List Addr} {tn : Nat → Heap → Prop} {C : Nat → Hp → Prop} {n : Nat} {Yd : Nat → V → Slp → Shared → Prop} {Dn : Nat → Slp} {J : It} {g : TG} {te : TE} {vs : List Nat} {a : Addr} {go : Obj}
theorem gxS_ok (hpn : (a, go) ∈ Z.pn ++ pn) (i : Nat) : SlOk a go (gxS Z pn σw fp tn C i) where
  lim := fun s ⟨H, I, _⟩ => I.nolimit
  at_ := fun s ⟨H, I, _⟩ => (I.pin _ hpn).1
  bare := fun s ⟨H, I, _⟩ => I.bare
  gens := fun s G ⟨H, I, r⟩ hG => ⟨H, Inv.gens I hG, r⟩
def FpAll (Z : Cx) (pn : List (Addr × Obj)) (fp : List Addr) : Prop := ∀ {σ' : L2.St} {H' : Hp} {s' : Shared}, Inv Z pn σ' H' s' → (∀ b ∈ fp, H' b = none) → ∀ b ∈ fp, FpOk Z pn H' b
/-- a loop over the last clause: fs what runs around it -/
theorem gx_last {A : Around} {e elt tg iter : Expr} {d : Nat} {it : Addr} {fs : List Frame} {YH : Nat → V → Hp → Prop} {fu : Nat → Nat → Prop} (hc : Z.calm = true) (hA : Z.A = A.over (gxC e d it Z.env) fs) (hx : ∀ e s, ¬ Z.xe e s) (hco : Z.env.scope.isCoroutine = false) (hpn : (a, go) ∈ Z.pn ++ pn)
    (hfs : splitAtGen fs = none) (hfg : fs.any Frame.guarded = false)
    (hden : ∃ (Hh : Value → Sem Fin) (gd : Bool → Bool) (lv : List Value → List Value), gd false = false ∧ (model Z.prog Z.w).den (gxC e d it Z.env) = ((do
      standAt iter.pos
      match ← pyNext (.ref it) with
      | none => pure (.done .next)
      | some v =>
        letOwnedTupleGo tg (.ref it) v
        assign tg Z.env v
        (do let v ← eval elt Z.env; standAt elt.pos; let _ ← yieldOut Z.env v)
        again (gxC e d it Z.env) : Sem Fin).wrap .pure Hh gd lv))
    (T : Turn Z.prog Z.w Z.K tg J fp it tn) (pg : PG Z tg g) (pe : PE Z elt te) (hst : FpAll Z pn fp) (hw : ∀ {σ2 : L2.St}, wipe σ2 vs = σw → σw.length = σ2.length)
    (F : Nat → Nat) (step : ∀ i H, C i H → (i = n ∧ J.stop i H) ∨ (i < n ∧ 0 < F i ∧ F (i + 1) + 1 = F i ∧ J.go i H ∧ ∀ x H1, J.yld i H x H1 → g x σw H1 fun σ2 H2 => wipe σ2 vs = σw ∧ te σ2 H2 fun y H3 => YH i y H3))
    (hY : ∀ i y H s, i < n → Inv Z pn σw H s → tn (i + 1) s.heap → (∀ b ∈ fp, H b = none) → YH i y H → Yd (F (i + 1)) y (gxS Z pn σw fp tn C (i + 1)) s)
    (hD : ∀ s0 s H, Inv Z pn σw H s → C n H → (∀ b ∈ fp, H b = none) → Seg (model Z.prog Z.w) A (fun m a r b => r = .ok .next ∧ gxR Dn m a b) (gxY a go Yd) (F n) s0 (gxC e d it Z.env) (.pure (.done .next)) fs s) :
    ∀ (k i : Nat) (s0 s : Shared), n - i = k → gxS Z pn σw fp tn C i s → Seg (model Z.prog Z.w) A (fun m a r b => r = .ok .next ∧ gxR Dn m a b) (gxY a go Yd) (F i) s0 (gxC e d it Z.env) ((model Z.prog Z.w).den (gxC e d it Z.env)) fs s := by
  obtain ⟨Hh, gd, lv, hgd, hden⟩ := hden
  intro k
  induction k with
  | zero =>
    rintro i s0 s hk ⟨H, I, st, nf, c⟩
    rcases step i H c with ⟨e1, stop⟩ | ⟨lt, _⟩
    · subst e1
      have td := T.done Z rfl rfl rfl hc i pn s σw H (fun _ _ => False) I (hst I nf) st stop
      rw [hA] at td
      rw [hden]
      refine seg_bind_wrap (wpAny_standAt (seg_bind_wrap (wpAny_mono td (fun r s1 ⟨er, I1⟩ => ?_) fun _ _ z => z.elim)))
      subst er
      exact hD s0 s1 H I1 c nf
    · omega
  | succ k ih =>
    rintro i s0 s hk ⟨H, I, st, nf, c⟩
    rcases step i H c with ⟨e1, _⟩ | ⟨lt, f0, f1, go, stp⟩
    · omega
    have ti := T.item Z rfl rfl rfl hc i pn s σw H (fun _ _ => False) I (hst I nf) st go
    rw [hA] at ti
    rw [hden]
    refine seg_bind_wrap (wpAny_standAt (seg_bind_wrap (wpAny_mono ti (fun r s1 ⟨u, er, h1⟩ => ?_) fun _ _ z => z.elim)))
    subst er
    refine seg_bind_wrap (wpAny_mono h1 (fun _ s2 ⟨x, H2, I2, r2, y2, st2, n2⟩ => ?_) fun _ _ z => z.elim)
    have I2p := I2.pinned (hst I2 n2) (T.obj _ _ st2)
    have hg := pg.run _ s2 _ H2 x u _ I2p r2 (stp x H2 y2)
    rw [hA] at hg
    refine seg_bind_wrap (wpAny_mono hg (fun _ s3 ⟨σ3, H3, I3, hw3, q3⟩ => ?_) fun _ _ z => (hx _ _ z).elim)
    have hy : ∀ v, yieldOut Z.env v = yieldValue v := fun v => by
      simp only [yieldOut, hco, if_neg Bool.false_ne_true]
    simp only [hy]
    rw [Sem.bind_eq_wrap', Sem.bind_eq_wrap', Sem.wrap_wrap, Sem.wrap_wrap]
    have he := pe.run _ s3 σ3 H3 _ I3 q3
    rw [hA] at he
    refine seg_wrap (wpAny_mono he (fun v s4 ⟨y, H4, I4, r4, q4⟩ => ?_) fun _ _ z => (hx _ _ z).elim)
    have pin : ∀ b ∈ fp, ∀ o, s2.heap.get? b = some o → s4.heap.get? b = some o ∧ H4 b = none := fun b hb o e =>
      let z := I4.pin (b, o) (List.mem_append_right _ (List.mem_append_right _ (mem_pinsAt hb e)))
      ⟨z.1, z.2.1⟩
    have I5 : Inv Z pn σw H4 s4 := (I4.unpinned (pins := pn)).weak (hw hw3) (fun j v e => by
      rw [← hw3] at e
      exact (wipe_some e).1)
    have nf4 : ∀ b ∈ fp, H4 b = none := fun b hb => by
      obtain ⟨o, e, _⟩ := T.obj _ _ st2 b hb
      exact (pin b hb o e).2
    have st4 : tn (i + 1) s4.heap := T.keep _ _ _ st2 fun b hb o e => (pin b hb o e).1
    rw [← f1]
    refine seg_at (seg_yield hfs (by exact hgd) hfg ⟨y, _, r4, gxS_ok hpn (i + 1), I5.bare, hY i y H4 s4 lt I5 st4 nf4 q4, fun s5 h5 => ?_⟩)
    exact seg_again rfl (ih (i + 1) s5 s5 (by omega) h5)
/-- ahead of the loop -/
theorem gx_begin {A : Around} {R : GenEnd} {Y : Protocol} {e : Expr} {d m : Nat} {it : Addr} {fs : List Frame} {ce : Env} {s0 s : Shared} {P : Program} {w : World} (hcl : ((clausesOf e)[d]?).elim false (·.is_async != 0) = false)
    (hden : (model P w).den (gx0 e d it ce) = (compStart e d (.ref it) .none ce).onRaise (leaving ce) ∨ ∃ Hh, (model P w).den (gx0 e d it ce) = (compStart e d (.ref it) .none ce).onRaise Hh)
    (T : ∀ (A' : Around) (Q : Value → Shared → Prop) (E : Value → Shared → Prop), Q (.ref it) s → wpAny (model P w) A' (pyIter (.ref it)) Q E s) (h : Seg (model P w) A R Y m s0 (gxC e d it ce) ((model P w).den (gxC e d it ce)) fs s) :
    Seg (model P w) A R Y m s0 (gx0 e d it ce) ((model P w).den (gx0 e d it ce)) fs s := by
  have key : ∀ Hh, Seg (model P w) A R Y m s0 (gx0 e d it ce) ((compStart e d (.ref it) .none ce).onRaise Hh) fs s := fun Hh => by
    unfold compStart
    rw [Sem.onRaise_eq_wrap, hcl]
    refine seg_bind_wrap (m := ask) (wpAny_askSetting ?_)
    split
    · exact seg_again rfl h
    · refine seg_bind_wrap (wpAny_rule ?_)
      split
      · exact seg_bind_wrap (wpAny_standAt (seg_bind_wrap (T _ _ _ (seg_again rfl h))))
      · exact seg_bind_wrap (T _ _ _ (seg_again rfl h))
  rcases hden with z | ⟨Hh, z⟩
  · rw [z]
    exact key _
  · rw [z]
    exact key _
end
end Sk
set_option Elab.async false
set_option linter.all false
set_option maxRecDepth 100000
set_option maxHeartbeats 4100000
/-! Sk31: two clauses. -/
namespace Sk
open PySem L2 Evl PyProof.Rows
section
variable {Z : Cx} {pn : List (Addr × Obj)} {σw : L2.St} {fp : List Addr} {tn : Nat → Heap → Prop} {n : Nat} {Yd : Nat → V → Slp → Shared → Prop} {Dn : Nat → Slp} {J : It} {g g2 : TG} {te : TE} {vs vs2 : List Nat} {a : Addr} {go : Obj} {wi2 : TI}
theorem gx_seg1 {A : Around} {elt tg iter : Expr} {scope : Scope} {pos : Pos} {it : Addr} {C : Nat → Hp → Prop} {YH : Nat → V → Hp → Prop} (hc : Z.calm = true) (hA : Z.A = A.over (gxC (gxOne elt tg iter scope pos) 0 it Z.env) []) (hx : ∀ e s, ¬ Z.xe e s) (hco : Z.env.scope.isCoroutine = false) (hpn : (a, go) ∈ Z.pn ++ pn)
    (T : Turn Z.prog Z.w Z.K tg J fp it tn) (pg : PG Z tg g) (pe : PE Z elt te) (hst : FpAll Z pn fp) (hw : ∀ {σ2 : L2.St}, wipe σ2 vs = σw → σw.length = σ2.length)
    (step : ∀ i H, C i H → (i = n ∧ J.stop i H) ∨ (i < n ∧ J.go i H ∧ ∀ x H1, J.yld i H x H1 → g x σw H1 fun σ2 H2 => wipe σ2 vs = σw ∧ te σ2 H2 fun y H3 => YH i y H3))
    (hY : ∀ i y H s, i < n → Inv Z pn σw H s → tn (i + 1) s.heap → (∀ b ∈ fp, H b = none) → YH i y H → Yd (n + 1 - (i + 1)) y (gxS Z pn σw fp tn C (i + 1)) s) (hD : ∀ s H, Inv Z pn σw H s → C n H → Dn (n + 1 - n) s) (s0 s : Shared) (h : gxS Z pn σw fp tn C 0 s) :
    Seg (model Z.prog Z.w) A (fun m a r b => r = .ok .next ∧ gxR Dn m a b) (gxY a go Yd) (n + 1) s0 (gx0 (gxOne elt tg iter scope pos) 0 it Z.env) ((model Z.prog Z.w).den (gx0 (gxOne elt tg iter scope pos) 0 it Z.env)) [] s := by
  have lp := gx_last (d := 0) (fs := []) (C := C) (n := n) (Yd := Yd) (Dn := Dn) (YH := YH) (fu := fun _ _ => True) (vs := vs) hc hA hx hco hpn rfl rfl ⟨_, id, id, rfl, by
    show (compTurn (gxOne elt tg iter scope pos) 0 (.ref it) .none Z.env).onRaise (leaving Z.env) = _
    rw [gx_turn1, Sem.onRaise_eq_wrap]⟩ T pg pe hst hw (fun i => n + 1 - i) (fun i H c => (step i H c).imp (fun z => z) fun ⟨lt, z⟩ => ⟨lt, by omega, by omega, z⟩) hY (fun s0 s H I c _ => by
      exact seg_end (.ok .next) ⟨rfl, I.bare, hD s H I c⟩) (n - 0) 0 s0 s rfl h
  obtain ⟨H, I, st, _⟩ := h
  exact gx_begin rfl (.inl rfl) (fun A' Q E q => T.self A' 0 s Q E st q) lp
/-- what stands outside -/
def gxS2 (Z : Cx) (pn : List (Addr × Obj)) (σw : L2.St) (fp : List Addr) (tn : Nat → Heap → Prop) (C : Nat → Nat → Hp → Prop) (i f : Nat) : Slp := gxS Z pn σw fp tn (fun i H => C i f H) i
end
end Sk
set_option Elab.async false
set_option linter.all false
set_option maxRecDepth 100000
set_option maxHeartbeats 4100000
/-! Sk32: a generator expression is made. -/
namespace Sk
open PySem L2 Evl PyProof.Rows GenW
open GxR (TabB TabG Tabbed inv_tab)
section
variable {X : Cx} {pins : List (Addr × Obj)} {σ : L2.St} {H : Hp} {s : Shared}
abbrev gxEnv (X : Cx) (scope : Scope) (s4 : Shared) (code : Value) : Env := genEnv scope (cloFrom X.env.cells scope.names []) s4.heap.objs.size code builtinsNs X.env
abbrev gxA (X : Cx) (e : Expr) (it : Addr) (ce : Env) : Around := X.A.in1.in1.over (gxC e 0 it ce) []
/-- the generator at a is made -/
structure GxMade (X : Cx) (pins : List (Addr × Obj)) (σ : L2.St) (own : List (Str × Nat)) (e tg : Expr) (scope : Scope) (J : It) (H2 : Hp) (s5 : Shared) where
  s4 : Shared
  code : Value
  fp : List Addr
  tn : Nat → Heap → Prop
  it : Addr
  a : Addr
  gi : Nat
  go : Obj
  I4 : Inv X pins σ H2 s4
  T : Turn X.prog X.w X.K tg J fp it tn
  st : tn 0 s5.heap
  nf : ∀ b ∈ fp, FpOk X pins H2 b ∧ b < s4.heap.objs.size
  ga : s4.heap.objs.size < a
  gen : ∀ h : Heap, h.get? a = some go → h.IsGen a gi
  gs : s5.gens[gi]? = some (.fresh (gx0 e 0 it (gxEnv X scope s4 code)))
  I5 : Inv (gxX X (gxA X e it (gxEnv X scope s4 code)) s4 H2 (gxEnv X scope s4 code) fp) [(a, go)] (wipe σ (own.map (·.2))) H2 s5
theorem gx_eval (elt tg iter : Expr) (cs : List Comprehension) (scope : Scope) (pos : Pos) (env : Env) (hco : scope.isCoroutine = false) : eval (.GeneratorExp elt (⟨tg, iter, [], 0⟩ :: cs) scope pos) env = (do
      let xv ← eval iter env
      standAt iter.pos
      let xw ← genFold iter env xv
      let itv ← holding [xw] (pyIter xw)
      enterFrame
      let cls ← closureFor scope env
      let cod ← genexprCode env pos (env.qual ++ "<genexpr>") scope
      let blt ← builtinsFor env.globals env.builtins
      let ce ← newFunctionEnv scope env.globals cls [(".0", itv)] (env.qual ++ "<genexpr>.") none cod none blt
      newGenerator (.compStart (.GeneratorExp elt (⟨tg, iter, [], 0⟩ :: cs) scope pos) 0 itv .none ce) "<genexpr>" (env.qual ++ "<genexpr>")) := by
  rw [arm_eval_GeneratorExp]
  simp only [hco, if_neg Bool.false_ne_true]
  cases iter <;> rfl
theorem dot_bind (it : Value) : (fun y : Str => ([((".0" : Str), it)] : List (Str × Value)).reverse.lookup y) = fun y : Str => if y = (".0" : Str) then some it else none := funext fun y => by
  by_cases hy : y = ".0"
  · subst hy
    simp
  · have z : (y == (".0" : Str)) = false := by simpa using hy
    simp [List.lookup, z, hy]
/-- made: its first iterator by hi -/
theorem gx_new {M : Model} {A : Around} {E : Value → Shared → Prop} {s : Shared} {env : Env} {elt tg iter : Expr} {cs : List Comprehension} {scope : Scope} {cl : List (Str × Addr)} {pos : Pos} {Q : Value → Shared → Prop} (hco : scope.isCoroutine = false) (hclos : closureFor scope env = pure cl) (hcell : ∀ y ∈ scope.names, y.2 ≠ .cell) (h0 : scope.names.lookup (".0" : Str) = some NameKind.local) (hkind : scope.kind = .function) (hroom : A.depth < recursionLimit)
    (h : wpAny M A (eval iter env) (fun xv s1 => wpAny M A (pyIter xv) (fun it s2 => s2.heap.NoLimit ∧ wpAny M A (genexprCode env pos (env.qual ++ "<genexpr>") scope) (fun code s3 => wpAny M A (builtinsFor env.globals env.builtins) (fun bi s4 =>
      ∀ h', h'.Ns s4.heap.objs.size (fun y => if y = ".0" then some it else none) → Heap.SameBut s4.heap.objs.size (s4.heap.push { cls := .type "frame", data := .dict #[] }) h' →
        Q (.ref h'.objs.size) { s4 with gens := s4.gens.push (.fresh (.compStart (.GeneratorExp elt (⟨tg, iter, [], 0⟩ :: cs) scope pos) 0 it .none (genEnv scope cl s4.heap.objs.size code bi env))), toks := s4.toks + 1 + 1 + 1, heap := h'.push { cls := .type "generator", data := .fields #[.int s4.gens.size 0, .str "<genexpr>" (s4.toks + 1), .str (env.qual ++ "<genexpr>") (s4.toks + 1 + 1)] } }) E s3) E s2) E s1) E s)
    (hs : ∀ x, genFold iter env x = pure x) : wpAny M A (eval (.GeneratorExp elt (⟨tg, iter, [], 0⟩ :: cs) scope pos) env) Q E s := by
  rw [gx_eval _ _ _ _ _ _ _ hco, hclos]
  refine wpAny_bind (wpAny_mono h (fun xv s1 h1 => wpAny_bind (wpAny_standAt (wpAny_bind (wpAny_of_eq (hs xv) (wpAny_bind (wpAny_holding (wpAny_mono h1 (fun it s2 h2 => ?_) fun _ _ e => e))))))) fun _ _ e => e)
  refine wpAny_bind (wpAny_enterFrame h2.1 hroom (wpAny_bind (wpAny_pure (wpAny_bind (wpAny_mono h2.2 (fun code s3 h3 => wpAny_bind (wpAny_mono h3 (fun bi s4 h4 => ?_) fun _ _ e => e)) fun _ _ e => e)))))
  have hb : ∀ y ∈ ([((".0" : Str), it)] : List (Str × Value)), scope.names.lookup y.1 = some NameKind.local := fun y hy => by
    rw [List.mem_singleton.mp hy]
    exact h0
  refine wpAny_bind (wpAny_newFunctionEnv hcell hb (fun h' hn hs' => ?_) hkind)
  rw [dot_bind] at hn
  simp only [newGenerator, newFields]
  exact wpAny_bind (wpAny_newGen (wpAny_bind (wpAny_mkText (wpAny_bind (wpAny_mkText (wpAny_newObj_type (h4 h' hn hs') (by size_fits)))))))
theorem gx_make {c P : Addr} {elt tg iter : Expr} {cs : List Comprehension} {gpos : Pos} {scope : Scope} {own : List (Str × Nat)} {wi : TI} {k : Nat} {Q' : Value → Shared → Prop} {R : It → Hp → Prop}
    (hr : Room k X.A) (TB : TabB X.base X.mg c P) (hcode : X.env.code = .ref c) (ok : GxOk X.N X.env.scope scope own) (hN : X.N.Nodup) (hc : X.calm = true) (hi : PI X tg iter wi) (hs : ∀ v, genFold iter X.env v = pure v) (I : Inv X pins σ H s)
    (h : wi σ H fun J H1 => TabG H1 P ∧ ∀ H2, Tabbed P H1 H2 → R J H2)
    (hQ : ∀ (J : It) (H2 : Hp) (s5 : Shared) (M : GxMade X pins σ own (.GeneratorExp elt (⟨tg, iter, [], 0⟩ :: cs) scope gpos) tg scope J H2 s5), R J H2 → Q' (.ref M.a) s5) :
    wpAny (model X.prog X.w) X.A (eval (.GeneratorExp elt (⟨tg, iter, [], 0⟩ :: cs) scope gpos) X.env) Q' X.xe s := by
  generalize he : (.GeneratorExp elt (⟨tg, iter, [], 0⟩ :: cs) scope gpos : Expr) = e at hQ
  have hfree : ∀ y ∈ scope.names, y.2 = .free → ∃ c, X.env.cells.lookup y.1 = some c := fun y hy e => (ok.blk.free y hy e).elim (fun k => I.ok.has _ (.inl k)) (fun k => I.ok.has _ (.inr k))
  rw [← he]
  refine gx_new ok.co (closure_ok hfree) ok.cell ok.dot ok.blk.kind hr.depth ?_ hs
  rw [he]
  refine thn (hi.run pins s σ H _ I h) fun xv s1 h1 => thn h1 fun itv s2 ⟨it, fp, tn, J, H1, eit, I1, T, st, f1, ⟨ps, hP, ht⟩, q1⟩ => ?_
  subst eit
  have hPs : s2.heap.get? P = some { cls := .none, data := .fields ps } := I1.hok P _ hP
  have cd : PySem.W.CodeHd s2.heap c P := TB.code.keeps fun b u e => I1.bk b u e
  have fsz : ∀ b ∈ fp, b < s2.heap.objs.size := fun b hb => let ⟨_, e, _⟩ := T.obj _ _ st b hb; Heap.lt_size e
  have fne : ∀ b ∈ fp, b ≠ P := fun b hb z => by
    have := (f1 b hb).1
    rw [z, hP] at this
    cases this
  have cont : ∀ (code : Value) (h3 : Heap) (tk : Nat) (more : Array Value), Heap.ExtBut P s2.heap h3 → s2.heap.objs.size ≤ h3.objs.size → h3.get? P = some { cls := .none, data := .fields (ps ++ more) } → TriplesOk (ps ++ more).toList →
      wpAny (model X.prog X.w) X.A (builtinsFor X.env.globals X.env.builtins) (fun bi s4 => ∀ h', h'.Ns s4.heap.objs.size (fun y => if y = ".0" then some (.ref it) else none) → Heap.SameBut s4.heap.objs.size (s4.heap.push { cls := .type "frame", data := .dict #[] }) h' →
        Q' (.ref h'.objs.size) { s4 with
          gens := s4.gens.push (.fresh (.compStart e 0 (.ref it) .none (genEnv scope (cloFrom X.env.cells scope.names []) s4.heap.objs.size code bi X.env))), toks := s4.toks + 1 + 1 + 1,
          heap := h'.push { cls := .type "generator", data := .fields #[.int s4.gens.size 0, .str "<genexpr>" (s4.toks + 1), .str (X.env.qual ++ "<genexpr>") (s4.toks + 1 + 1)] } }) X.xe { s2 with heap := h3, toks := tk } := by
    intro code h3 tk more hx hsz hP3 ht3
    obtain ⟨bm, ob, e1, e2, e3, e4, e5, e6, e7, e8⟩ := TB.bm
    have keep3 : ∀ b u, b ≠ P → s2.heap.get? b = some u → h3.get? b = some u := fun b u hb e => hx b u hb e
    have I3 : Inv X pins σ (upd H1 P (.tbl (ps ++ more))) { s2 with heap := h3, toks := tk } := inv_tab (more := more) (h' := h3) (g' := s2.gens) (d' := s2.drawn) (t' := tk) I1 hP keep3 hP3 I1.bare
    refine wpAny_builtinsFor (m := X.mg) (by rw [I1.ok.glob]; exact (I1.mod.glob.keeps I1.bk).extBut hx TB.gP) e1 e2 (keep3 _ _ e4 (I1.bk _ _ e5)) e6 e7 e8 ?_
    intro h' hn' hs'
    generalize hs4 : ({ s2 with heap := h3, toks := tk } : Shared) = s4 at I3 hn' hs' ⊢
    have e4h : s4.heap = h3 := by rw [← hs4]
    have hz : h'.objs.size = s4.heap.objs.size + 1 := by rw [hs'.1, Heap.size_push]
    have kp : ∀ b o, s4.heap.get? b = some o → h'.get? b = some o := fun b o e => hs'.extBut b o (Nat.ne_of_lt (Heap.lt_size e)) (Heap.get?_push_of_some _ e)
    generalize hgo : ({ cls := .type "generator", data := .fields #[.int s4.gens.size 0, .str "<genexpr>" (s4.toks + 1), .str (X.env.qual ++ "<genexpr>") (s4.toks + 1 + 1)] } : Obj) = go
    have kp5 : ∀ b o, s4.heap.get? b = some o → (h'.push go).get? b = some o := fun b o e => Heap.get?_push_of_some _ (kp b o e)
    have ha5 : (h'.push go).get? h'.objs.size = some go := Heap.get?_push_size _ (by rw [← hgo]; rfl)
    have nf : ∀ b ∈ fp, FpOk X pins (upd H1 P (.tbl (ps ++ more))) b ∧ b < s4.heap.objs.size := fun b hb => by
      refine ⟨⟨?_, (f1 b hb).2⟩, by rw [e4h]; exact Nat.lt_of_lt_of_le (fsz b hb) hsz⟩
      rw [upd_ne (fne b hb)]
      exact (f1 b hb).1
    have hAf : (gxA X e it (gxEnv X scope s4 code)).frames = some (gxEnv X scope s4 code :: X.stack) := by
      rw [← he]
      show pushEnvs [gxEnv X scope s4 code] (pushEnvs (envsOf []) X.A.frames) = _
      rw [I1.ok.frames]
      rfl
    have I5 := gx_start (A' := gxA X e it (gxEnv X scope s4 code)) (code := code) (h5 := h'.push go) (gs := .fresh (gx0 e 0 it (gxEnv X scope s4 code))) (tk := s4.toks + 1 + 1 + 1) (a := h'.objs.size) (go := go) I3 ok hN nf (fun z => hr.hd) hAf rfl kp5 (hn'.push _) ha5 (by rw [hz]; exact Nat.lt_succ_self _) (by rw [← hgo]; exact fun v q => nomatch q)
    refine hQ J _ _ ⟨s4, code, fp, tn, it, h'.objs.size, s4.gens.size, go, I3, T, ?_, nf, by rw [hz]; exact Nat.lt_succ_self _, fun h e => ⟨go, _, _, e, by rw [← hgo], by rw [← hgo], by rw [← hgo]⟩, ?_, I5⟩ (q1 _ ⟨⟨ps ++ more, upd_same, ht3⟩, fun b hb => upd_ne hb⟩)
    · exact T.keep _ _ _ st fun b hb o e => kp5 b o (by rw [e4h]; exact keep3 b o (fne b hb) e)
    · exact Array.getElem?_push_size ..
  refine ⟨I1.nolimit, ?_⟩
  cases hf : codeAmong gpos ps.toList with
  | none =>
    refine wpAny_genexprCodeX hcode (cd.code hPs ht) (cd.tab hPs) hf fun c' h' tk hx hge hlt hco' _ htab' _ => ?_
    obtain ⟨o1, us, f1', tf, fl, tg', inF, tx, tt, op, _, _, _, _, _, _, _, _, _, htr, _⟩ := hco'
    exact cont _ h' tk _ hx (Nat.le_trans hge (Nat.le_of_lt hlt)) htab'.2 htr
  | some cv =>
    refine wpAny_genexprCode_hit hcode (cd.code hPs ht) hf ?_
    have := cont cv s2.heap s2.toks #[] (Heap.ExtBut.refl _ _) (Nat.le_refl _) (by simpa using hPs) (by simpa using ht)
    exact this
end
end Sk
set_option Elab.async false
set_option linter.all false
set_option maxRecDepth 100000
set_option maxHeartbeats 4100000
/-! Sk33: any(..), all(..) of a generator expression, as rules. -/
namespace Sk
open PySem L2 Evl PyProof.Rows GenW
open GxR (TabB TabG Tabbed inv_tab)
section
variable {X : Cx} {pins : List (Addr × Obj)} {σ : L2.St} {H : Hp} {s : Shared}
abbrev gxZ (X : Cx) (e : Expr) (scope : Scope) (s4 : Shared) (H2 : Hp) (code : Value) (fp : List Addr) (it : Addr) : Cx := gxX X (gxA X e it (gxEnv X scope s4 code)) s4 H2 (gxEnv X scope s4 code) fp
theorem gx_room {k : Nat} {e elt : Expr} {cs : List Comprehension} {gpos : Pos} {scope : Scope} {s4 : Shared} {code : Value} {it : Addr} (hr : Room (k + 1) X.A) (he : e = .GeneratorExp elt cs scope gpos) : Room k (gxA X e it (gxEnv X scope s4 code)) := by
  subst he
  refine ⟨hr.hd, ?_, ?_⟩
  · have := hr.dp
    show X.A.depth + 0 + 1 + 3 * k + 5 < recursionLimit
    omega
  · have := hr.un
    show X.A.units + 1 + 1 + 0 + 3 + 16 * k + 200 < cLine
    omega
theorem gx_fpall {e tg : Expr} {scope : Scope} {own : List (Str × Nat)} {J : It} {H2 : Hp} {s5 : Shared} (M : GxMade X pins σ own e tg scope J H2 s5) : FpAll (gxZ X e scope M.s4 H2 M.code M.fp M.it) [(M.a, M.go)] M.fp := fun {σ' H' s'} I' hn b hb =>
  ⟨hn b hb, (I'.ok.exf b hb).1, I'.ok.exfs b hb, .inl hb, fun x c e => (I'.ok.exf b hb).2 x c e, fun p hp z => by
    have e : p = (M.a, M.go) := by
      rcases List.mem_append.mp hp with q | q
      · cases q
      · exact List.mem_singleton.mp q
    subst e
    have h1 := (M.nf b hb).2
    have ga := M.ga
    have h2 : M.a = b := z
    rw [h2] at ga
    exact Nat.lt_irrefl _ (Nat.lt_trans h1 ga)⟩
theorem gx_back {e tg : Expr} {scope : Scope} {own : List (Str × Nat)} {J : It} {H2 : Hp} {s5 : Shared} (M : GxMade X pins σ own e tg scope J H2 s5) {P1 : List (Addr × Obj)} {σ' : L2.St} {H' : Hp} {s' : Shared} (I' : Inv (gxZ X e scope M.s4 H2 M.code M.fp M.it) P1 σ' H' s') : Inv X pins σ H' s' :=
  M.I4.call' (ch := M.fp) I'.os I'.base I'.hok I'.bare fun b hb => ⟨(M.nf b hb).1.2.2.2.1, (M.nf b hb).1.2.1, (M.nf b hb).1.2.2.2.2.1, (M.nf b hb).1.2.2.2.2.2⟩
variable {c P : Addr} {elt tg iter tg2 iter2 : Expr} {gpos pos p : Pos} {scope : Scope} {own : List (Str × Nat)} {wi wi2 : TI} {g g2 : TG} {te : TE} {k : Nat} {st : Bool} {Q : VK} {J : It} {H2 : Hp} {s5 : Shared}
end
end Sk
set_option Elab.async false
set_option linter.all false
set_option maxRecDepth 100000
set_option maxHeartbeats 4100000
/-! Sk34: any(..), all(..) of a generator expression, typed. -/
namespace Sk
open PySem L2 Evl
open GxR (TabB TabG Tabbed)
section
variable {K : Fg} {B : Bs} {Γ : Gm} {O : List Own} {σ : St} {G H H' : Hp}
/-- a table has grown -/
theorem Ws.tabbed {P0 : Addr} (hP : P0 ∈ B.T) (W : Ws K B Γ O σ G H) (t : Tabbed P0 H H') : Ws K B Γ O σ G H' := by
  obtain ⟨⟨ps, e1, e2⟩, ht⟩ := t
  obtain ⟨_, n0⟩ := W.tab P0 hP
  refine W.step ⟨fun c o e => ?_, Ex.refl _, fun c o e h1 _ => ?_, fun c h => ?_, fun c h h' => (h' h).elim, fun c hc h => ?_⟩
  · have hne : c ≠ P0 := fun z => by
      rw [z, n0] at e
      cases e
    rw [ht c hne]
    exact W.sub c o e
  · rw [ht c fun z => h1 (by rw [z]; exact hP)]
    exact e
  · by_cases z : c = P0
    · rw [z, e1]
      exact fun q => nomatch q
    · rw [ht c z]
      exact h
  · by_cases z : c = P0
    · rw [z]
      exact ⟨ps, e1, e2⟩
    · obtain ⟨qs, q1, q2⟩ := h
      exact ⟨qs, by rw [ht c z]; exact q1, q2⟩
end
section
variable {ι : Type} {F : ι → Cx} {K : Fg} {B : Bs} {Γ : Gm} {O : List Own} {α : Type} {ra : Rp α} {e tg elt iter : Expr} {n : Str} {p pos gpos : Pos} {scope : Scope}
variable {P : Program} {w : World} {mg : Str → Option Value} {base : Heap} {k : Nat}
/-- the contexts of a generator expression's frame -/
abbrev ιG (ι : Type) (k : Nat) : Type := ι × { A' : Around // Room k A' } × Shared × Hp × Value × List Addr
abbrev gxF {ι : Type} (F : ι → Cx) (k : Nat) (scope : Scope) : ιG ι k → Cx := fun j => gxX (F j.1) j.2.1.1 j.2.2.1 j.2.2.2.1 (gxEnv (F j.1) scope j.2.2.1 j.2.2.2.2.1) j.2.2.2.2.2
instance famGx [fam : Fam F P w K mg base (k + 1)] : Fam (gxF F k scope) P w K mg base k :=
  ⟨fun j => fam.pr j.1, fun j => fam.wd j.1, fun j => fam.ka j.1, fun j => fam.mg j.1, fun j => fam.bs j.1, fun j => j.2.1.2, fun j => fam.cm j.1, fun j => fam.nd j.1⟩
/-- the running def's code object, its table at P0 -/
def TabF (F : ι → Cx) (P0 : Addr) : Prop := ∀ i, ∃ c, TabB (F i).base (F i).mg c P0 ∧ (F i).env.code = .ref c
end
end Sk
set_option Elab.async false
set_option linter.all false
set_option maxRecDepth 100000
set_option maxHeartbeats 4100000
/-! Sk35: any(..), all(..) of a generator expression with two clauses, typed. -/
namespace Sk
open PySem L2 Evl
open GxR (TabB TabG Tabbed)
end Sk
set_option Elab.async false
set_option linter.all false
set_option maxRecDepth 100000
set_option maxHeartbeats 4100000
/-! Sk36: defs that make generators: their code, their table; the end with tables. -/
namespace Sk
open PySem L2 Evl PySem.Spec PyProof.Rows
open GxR (TabB TabG Tabbed)
def gxB (N : List Str) (sc scope : Scope) (own : List (Str × Nat)) : Bool := blkC N sc scope own && (!scope.isCoroutine && (scope.names.all (fun y => match y.2 with | .cell => false | _ => true) && match scope.names.lookup (".0" : Str) with | some .local => true | _ => false))
theorem gxOk_by {N : List Str} {sc scope : Scope} {own : List (Str × Nat)} (h : gxB N sc scope own = true) : GxOk N sc scope own := by
  unfold gxB at h
  rw [Bool.and_eq_true, Bool.and_eq_true, Bool.and_eq_true] at h
  obtain ⟨h1, h2, h3, h4⟩ := h
  refine ⟨blkOk_by h1, by simpa using h2, fun y hy e => ?_, ?_⟩
  · have q := List.all_eq_true.mp h3 y hy
    rw [e] at q
    cases q
  · split at h4
    · assumption
    · cases h4
/-- the code object and the table of a def -/
structure Tf {K : Fg} {mg : Str → Option Value} {n : Str} {st : Stmt} {ps : List Str} (D : Df K mg n st ps) where
  c : Addr
  P0 : Addr
  hc : D.fd.code = .ref c
section
variable {P : Program} {w : World} {K : Fg} {mg : Str → Option Value} {base : Heap} {α β : Type} {ra : RpF α} {rb : Rp β} {pre : α → Prop} {own : α → List Own} {post : α → β → List Own → Prop} {k : Nat}
theorem fun_okC {x qual : Str} {st : Stmt} {f c : Addr} {fd : FuncData} {N ps : List Str} {sp : Sp} (F : Fun K x qual st f fd) (hc : fd.code = .ref c) (S : FnScope N ps (defScope st)) (len : ∀ vs H Q E, sp vs H Q E → vs.length = ps.length)
    (hbody : ∀ (A : Around) (outer : List Env) (s : Shared) (H : Hp) (vs : List V) (Q : VK) (E : XK), Room k (A.deeper (envOfC qual (defScope st) s.heap.objs.size f (.ref c))) → sp vs H Q E →
      ∃ t, PSs (cxOf CX0 P w K mg base N qual (defScope st) f (.ref c) A outer s H E).nox (defBody st) t ∧ t { nx := fun _ H' => Q .non H', rt := Q } (start N vs) H) : FnOk P w K mg base CX0 (k + 1) f fd ps sp := by
  obtain ⟨oc, od, kV, doc, pm, an, cdv, ct, osl, rfl, lk, hcd⟩ := F.ex
  have e : cdv = .ref c := hc
  subst e
  refine fn_of lk hcd S len fun A outer s H vs Q E hr hsp => ?_
  obtain ⟨t, h, q⟩ := hbody A outer s H vs Q E hr hsp
  exact ⟨t, h.nox, q⟩
/-- as fn_m, the def's code object known -/
theorem fn_g {x qual : Str} {st : Stmt} {f c : Addr} {fd : FuncData} {N ps : List Str} {m : Nat} {g : α → Gm} [hl : Len ra m] [ha : Args ra g]
    (F : Fun K x qual st f fd) (hc : fd.code = .ref c) (S : FnScope N ps (defScope st)) (T : List Addr)
    (h : ∀ (A : Around) (outer : List Env) (s : Shared) (G H : Hp) (E : XK) (x : α) (Q : VK), Fam (Us (Xf P w K mg base N qual st f (.ref c) A outer s H E)) P w K mg base k → pre x →
      (∀ {Γ : Gm} {O' : List Own} {y : β}, post x y O' → RT K ⟨T, (own x).map (·.a), G, H, []⟩ Γ O' rb y { nx := fun _ H' => Q .non H', rt := Q }) →
      DS (Xf P w K mg base N qual st f (.ref c) A outer s H E) K ⟨T, (own x).map (·.a), G, H, []⟩ (g x ++ List.replicate (N.length - m) none) (own x) (defBody st) { nx := fun _ H' => Q .non H', rt := Q }) (hm : m = ps.length := by rfl) :
    FnOk P w K mg base CX0 (k + 1) f fd ps (spM K T ra pre own rb post) := by
  refine fun_okC F hc S (fun vs H Q E ⟨G, x, _, _, r, _⟩ => by rw [hl.len r]; exact hm) fun A outer s H vs Q E hr ⟨G, x, sub, tab, r, hp, ho, hn, q⟩ => ?_
  have fam : Fam (Us (Xf P w K mg base N qual st f (.ref c) A outer s H E)) P w K mg base k := ⟨fun _ => rfl, fun _ => rfl, fun _ => rfl, fun _ => rfl, fun _ => rfl, fun _ => hr, fun _ => rfl, fun _ => S.nd⟩
  have hx := h A outer s G H E x Q fam hp (fun {Γ O' y} hpost v σ G' H' W rv => q v y O' G' H' W.st (fun w hw => let ⟨a, b, c, d⟩ := W.own w hw; ⟨a, b, c, d⟩) W.nd rv hpost)
  refine hx (L2.start N vs) G H ⟨Stp.refl sub, tab, fun _ z => absurd z (by simp), ?_, fun w hw => ?_, hn, fun c hc => ?_⟩
  · have e := ha.env (m := N.length - m) r
    unfold L2.start
    rw [hl.len r]
    exact e
  · obtain ⟨a, b, c⟩ := ho w hw
    exact ⟨a, b, c, .inr (List.mem_map.mpr ⟨w, hw, rfl⟩)⟩
  · obtain ⟨w, hw, e⟩ := List.mem_map.mp hc
    obtain ⟨⟨o, a, _⟩, _⟩ := ho w hw
    show H c ≠ none
    rw [← e, a]
    simp
theorem tabF {qual : Str} {st : Stmt} {f c P0 : Addr} {N : List Str} {A : Around} {outer : List Env} {s : Shared} {H : Hp} {E : XK} (tb : TabB base mg c P0) : TabF (Us (Xf P w K mg base N qual st f (.ref c) A outer s H E)) P0 := fun _ => ⟨c, tb, rfl⟩
end
/-- the head's list, the tables empty -/
theorem start_tabs {K : Fg} {H : Hp} {T : List Addr} (hT : ∀ P ∈ T, H P = some (.tbl #[])) {a : Addr} {ns : List Int} (hS : SqL K H a (ns.map V.int)) (hK : ∀ P ∈ T, K.lookup P = none) :
    ∃ G : Hp, Ex G H ∧ (∀ P ∈ T, (∃ ps, H P = some (.tbl ps) ∧ TriplesOk ps.toList) ∧ G P = none) ∧ SqL K G a (ns.map V.int) := by
  classical
  refine ⟨fun b => if b ∈ T then none else H b, fun b o e => ?_, fun P hP => ⟨⟨#[], hT P hP, trivial⟩, if_pos hP⟩, ?_⟩
  · have e : (if b ∈ T then none else H b) = some o := e
    by_cases hb : b ∈ T
    · rw [if_pos hb] at e
      cases e
    · rw [if_neg hb] at e
      exact e
  · have hne : ∀ o, H a = some o → (∀ ps, o ≠ .tbl ps) → (if a ∈ T then none else H a) = some o := fun o e n => by
      rw [if_neg fun z => n #[] (Option.some.inj (e.symm.trans (hT a z)))]
      exact e
    rcases hS with h | h
    · left
      rcases h with h | h
      · exact .inl (hne _ h fun _ z => by cases z)
      · obtain ⟨o, h⟩ := h
        exact .inr ⟨o, hne _ h fun _ z => by cases z⟩
    · exact .inr h
end Sk
set_option Elab.async false
set_option linter.all false
set_option maxRecDepth 100000
set_option maxHeartbeats 4100000
/-! Sk37: the end by a Hook that tells the defs by name, their tables too. -/
namespace Sk
open PySem L2 Evl PySem.Spec PyProof.Rows
section
variable {K : Fg} {mg : Str → Option Value} {h : Heap} {fa : List He.Fa} {fn : List He.DefD}
abbrev dD (n : Str) (st : Stmt) : He.DefD := ⟨(n, none), n, n, defArgs st, defBody st, defScope st, [], []⟩
theorem fun_ofD {x qual : Str} {st : Stmt} {f : Addr} {fd : FuncData} (F : FunD K x qual (defArgs st) (defBody st) (defScope st) [] [] f fd) : Fun K x qual st f fd := by
  obtain ⟨oc, od, dV, kV, doc, pm, an, cdv, ct, osl, e, lk, hcd, hd, _⟩ := F.ex
  rcases hd with ⟨_, z⟩ | ⟨z, _⟩
  · subst z
    exact ⟨⟨oc, od, kV, doc, pm, an, cdv, ct, osl, e, lk, hcd⟩, F.kp⟩
  · exact absurd rfl z
/-- a def as the head tells it -/
theorem df_of (c : He.SaysD fa fn K) (X : K.In h) (G : h.Ns mainGlobals mg) (i j : Nat) {n : Str} {st : Stmt} {ps : List Str} (hi : fn[i]? = some (dD n st)) (hj : fa[j]? = some (.glo n))
    (hb : ∀ (f : Addr) (fd : FuncData), Fun K n n st f fd → Binds K fd ps []) : ∃ D : Df K mg n st ps, D.fd.code = .ref (He.codeOf K (n, none)) ∧ FunD K n n (defArgs st) (defBody st) (defScope st) [] [] D.f D.fd := by
  obtain ⟨fd, F⟩ := c.def_ i (d := dD n st) hi
  have F1 := fun_ofD F
  refine ⟨⟨He.fAd K (n, none), fd, F1, He.glo_ok X G (c.fact j (f := .glo n) hj), hb _ _ F1⟩, ?_, F⟩
  obtain ⟨oc, od, dV, kV, doc, pm, an, cdv, ct, osl, e, lk, hcd, _, _⟩ := F.ex
  obtain ⟨cc, e2⟩ := He.codeIn_ref hcd
  have e3 : fd.code = .ref cc := by rw [e, e2] <;> rfl
  rw [He.codeOf_eq (p := (n, none)) lk e3]
  exact e3
end
/-- THE END, with tables, the part of the heap told by the Hook -/
theorem walk_tabsE {l : PySem.W.OpenLaw} {q : Program} {loose : List Str} {XP : (Str → Option Value) → Heap → Prop} {YP : World → Heap → Prop} {d : DefRec} {k : Nat} {x : Str} (hn : l.most = some 63) (hdf : d.params.defaults = []) (hr : Room k callerA)
    (F : ∀ (w : World) (mg : Str → Option Value) (fa : Addr) (h : Heap), YP w h → h.Ns mainGlobals mg → mg d.name = some (.ref fa) →
      ∃ (K : Fg) (fd : FuncData) (cs : List (Addr × Addr)), K.In h ∧ (∀ p ∈ cs, h.get? p.2 = some { cls := .none, data := .fields #[] }) ∧ (∀ p ∈ cs, K.lookup p.2 = none) ∧ (∀ p ∈ cs, PySem.W.codeHdIn K p.1 p.2 = true) ∧ (∀ (s : Shared) (u : Value), BindsTo s fd ⟨[u], []⟩ [(x, u)]) ∧
        ∀ base : Heap, K.In base → base.Ns mainGlobals mg → (∀ p ∈ cs, GxR.TabB base mg p.1 p.2) → FnOk l.prog w K mg base CX0 k fa fd [x] (sp0 K (cs.map (·.2)) (fOne (rSeq rInt)) (fun ns => ns.length ≤ 63) rBool fun _ y => y = true)) :
    PySem.W.WalkO q loose XP YP l.row.toRowW d [] (fun f vs => PySem.call f vs) := by
  refine LamX.walk_ofTsE (n := 63) (k := k) (x := x) (CX := fun _ => CX0) hn (by decide) hdf hr (fun w mg fa h Y G hmg => ?_) fun _ _ _ _ _ z => z
  obtain ⟨K, fd, cs, KX, h1, h2, h3, h4, h5⟩ := F w mg fa h Y G hmg
  refine ⟨K, KX, fd, cs, _, h1, h2, fun p hp => PySem.W.codeHd_of_K KX (h3 p hp), h4, fun H a ns hl _ hTb hS => ?_, fun base kx g tb => h5 base kx g fun p hp => ⟨(tb p hp).code, (tb p hp).bm, (tb p hp).gP⟩⟩
  obtain ⟨G0, e0, t0, s0⟩ := start_tabs (T := cs.map (·.2)) (fun P hP => by
    obtain ⟨p, hp, e⟩ := List.mem_map.mp hP
    rw [← e]
    exact hTb p hp) hS (fun P hP => by
    obtain ⟨p, hp, e⟩ := List.mem_map.mp hP
    rw [← e]
    exact h2 p hp)
  exact ⟨G0, ns, e0, t0, ⟨.ref a, rfl, a, ns.map V.int, rfl, s0, All2.of_int ns⟩, hl, fun v hv => absurd hv (by simp), List.nodup_nil, fun v y O' G' H' _ _ _ r p => by
      have r' : v = .bl y := r
      rw [r', show y = true from p.2]⟩
end Sk
set_option Elab.async false
set_option linter.all false
set_option maxRecDepth 100000
set_option maxHeartbeats 4100000
/-! Sk38: min(..) of a generator expression over ints (raw). -/
namespace Sk
open PySem L2 Evl PyProof.Rows GenW
open GxR (TabB TabG Tabbed inv_tab)
/-- what min's own list holds -/
def BestAt (h : Heap) (S : Addr) (b : Option Int) : Prop := ∃ (c : Nat), match b with
  | none => h.get? S = some { cls := .type "list", dict := none, data := .seq #[] c, slots := #[] }
  | some k => ∃ t t', h.get? S = some { cls := .type "list", dict := none, data := .seq #[.int k t, .int k t'] c, slots := #[] }
def mnV (b : Option Int) (k : Int) : Int := match b with
  | none => k
  | some j => if k < j then k else j
def betV (b : Option Int) (k : Int) : Bool := match b with
  | none => true
  | some j => decide (k < j)
section
variable {prog : Program} {w : World} {A : Around} {E : Value → Shared → Prop}
theorem lt_ints {i j : Int} {t t' : Tok} {s : Shared} {Q : Value → Shared → Prop} (h : Q (.bool (decide (i < j))) s) : wpAny (model prog w) A (richCompare .Lt (.int i t) (.int j t')) Q E s :=
  CmpOf.ints_lt (P := fun n v => ∃ u, v = .int (if n = 0 then i else j) u) (fun n => if n = 0 then i else j) (fun _ _ z => z) 0 1 _ _ s Q E ⟨t, rfl⟩ ⟨t', rfl⟩ h
theorem min_inv {I S : Addr} {R : Result → Shared → Prop} (J : Nat → Option Int → Shared → Prop)
    (turn : ∀ m b s, J m b s → BestAt s.heap S b ∧ wpAny (model prog w) A.in1 (pyNext (.ref I)) (fun r s1 => BestAt s1.heap S b ∧ ((r = none ∧ ∃ k, b = some k ∧ ∀ t, R (.ok (.ret (.int k t))) { s1 with heap := s1.heap.update S (Obj.mapSeq fun _ => #[]) }) ∨
      ∃ k t, r = some (.int k t) ∧ ∃ m', m' < m ∧ (betV b k = true → J m' (some k) { s1 with heap := s1.heap.update S (Obj.mapSeq fun _ => #[.int k t, .int k t]) }) ∧ (betV b k = false → J m' b s1))) (fun _ _ => False) s) :
    ∀ (m : Nat) (b : Option Int) (s : Shared), J m b s → codeAny (model prog w) A (.builtin "min.loop" ⟨[.ref I, .none, .ref S], []⟩) R s := by
  have hname : (toString "min" ++ toString ".loop" : String) = "min.loop" := by decide
  intro m
  induction m using Nat.strongRecOn with
  | ind m ih =>
    intro b s hJ
    obtain ⟨hb, ht⟩ := turn m b s hJ
    refine codeAny_builtin F.entry_min_loop ?_
    rw [Around.under_plainId F.plain_min_loop _]
    show wpAny _ A.in1 (seqItems? (.ref S) >>= _) _ _ s
    cases b with
    | none =>
      obtain ⟨c, hS⟩ := hb
      refine wpAny_bind (wpAny_seqItems hS rfl ?_)
      show wpAny _ A.in1 (tryCatch (pyNext (.ref I)) _ >>= _) _ _ s
      refine wpAny_bind (wpAny_tryCatch (wpAny_mono ht (fun r s1 h => ?_) fun _ _ z => z.elim))
      obtain ⟨⟨c1, hS1⟩, h⟩ := h
      rcases h with ⟨e, k, e2, _⟩ | ⟨k, t, e, m', hm, h1, _⟩
      · cases e2
      · subst e
        show wpAny _ A.in1 (updateSeq S (fun _ => #[.int k t, .int k t]) >>= _) _ _ _
        refine wpAny_bind (wpAny_updateSeq hS1 rfl ?_)
        rw [hname]
        exact wpAny_pure ⟨plainId_quiet F.plain_min_loop _, ih m' hm _ _ (h1 rfl)⟩
    | some j =>
      obtain ⟨c, tj, tj', hS⟩ := hb
      refine wpAny_bind (wpAny_seqItems hS rfl ?_)
      show wpAny _ A.in1 (tryCatch (pyNext (.ref I)) _ >>= _) _ _ s
      refine wpAny_bind (wpAny_tryCatch (wpAny_mono ht (fun r s1 h => ?_) fun _ _ z => z.elim))
      obtain ⟨⟨c1, u1, u2, hS1⟩, h⟩ := h
      rcases h with ⟨e, k, e2, hR⟩ | ⟨k, t, e, m', hm, h1, h2⟩
      · subst e
        cases e2
        show wpAny _ A.in1 (updateSeq S (fun _ => #[]) >>= _) _ _ _
        exact wpAny_bind (wpAny_updateSeq hS1 rfl (wpAny_bind (wpAny_letGo (wpAny_pure (hR _)))))
      · subst e
        show wpAny _ A.in1 (tryCatch (holding [.int k t, .int k t] (richCompare .Lt (.int k t) (.int j tj') >>= _)) _ >>= _) _ _ _
        refine wpAny_bind (wpAny_tryCatch (wpAny_holding (wpAny_bind (lt_ints ?_))))
        refine wpAny_bind (wpAny_holding (wpAny_truthy_bool ?_))
        refine wpAny_bind (wpAny_letGo (wpAny_pure ?_))
        cases hb : decide (k < j) with
        | true =>
          simp only [if_true]
          refine wpAny_bind (wpAny_updateSeq hS1 rfl (wpAny_bind (wpAny_letGo ?_)))
          rw [hname]
          exact wpAny_pure ⟨plainId_quiet F.plain_min_loop _, ih m' hm _ _ (h1 hb)⟩
        | false =>
          simp only [Bool.false_eq_true, if_false]
          refine wpAny_bind (wpAny_letGo ?_)
          rw [hname]
          exact wpAny_pure ⟨plainId_quiet F.plain_min_loop _, ih m' hm _ _ (h2 hb)⟩
theorem call_minI {a gi : Addr} {s : Shared} {Q : Value → Shared → Prop} (hg : s.heap.IsGen a gi) (J : Nat → Option Int → Shared → Prop)
    (turn : ∀ m b s1, J m b s1 → BestAt s1.heap s.heap.objs.size b ∧ wpAny (model prog w) A.in1 (pyNext (.ref a)) (fun r s2 => BestAt s2.heap s.heap.objs.size b ∧ ((r = none ∧ ∃ k, b = some k ∧ ∀ t, Q (.int k t) { s2 with heap := s2.heap.update s.heap.objs.size (Obj.mapSeq fun _ => #[]) }) ∨
      ∃ k t, r = some (.int k t) ∧ ∃ m', m' < m ∧ (betV b k = true → J m' (some k) { s2 with heap := s2.heap.update s.heap.objs.size (Obj.mapSeq fun _ => #[.int k t, .int k t]) }) ∧ (betV b k = false → J m' b s2))) (fun _ _ => False) s1)
    {m : Nat} (hJ : J m none { s with heap := s.heap.push { cls := .type "list", data := .seq #[] } }) : wpAny (model prog w) A (call (.builtin "min") [.ref a]) Q E s := by
  have hname : (toString "min" ++ toString ".loop" : String) = "min.loop" := by decide
  refine call_function_tree F.kind_min F.plain_min F.entry_min (F.args_min1 _) ?_
  show wpAny _ A.in1 (Builtin.Builtins.bindParams "min" ["key", "default"] 0 ⟨[], []⟩ >>= _) _ _ s
  refine wpAny_bind (wpAny_of_eq (show Builtin.Builtins.bindParams "min" ["key", "default"] 0 ⟨[], []⟩ = pure [none, none] from rfl) ?_)
  refine wpAny_bind (wpAny_pure (wpAny_bind (wpAny_pyIter_gen hg ?_)))
  refine wpAny_bind (wpAny_newObj_type ?_)
  rw [hname]
  refine wpAny_pure ⟨plainId_quiet F.plain_min_loop _, min_inv J (fun m b s1 h => ?_) m none _ hJ⟩
  obtain ⟨h1, h2⟩ := turn m b s1 h
  refine ⟨h1, wpAny_mono h2 (fun r s2 z => ?_) fun _ _ z => z⟩
  obtain ⟨z1, z2⟩ := z
  refine ⟨z1, ?_⟩
  rcases z2 with ⟨e, k, e2, q⟩ | q
  · exact .inl ⟨e, k, e2, fun t => by simpa using q t⟩
  · exact .inr q
end
end Sk
set_option Elab.async false
set_option linter.all false
set_option maxRecDepth 100000
set_option maxHeartbeats 4100000
/-! Sk39: min(..) of a generator expression, one clause, as a rule. -/
namespace Sk
open PySem L2 Evl PyProof.Rows GenW
open GxR (TabB TabG Tabbed inv_tab)
def lsB : Option Int → List V
  | none => []
  | some k => [.int k, .int k]
/-- bs: the best of the first i -/
def GxWantM (J : It) (g : TG) (te : TE) (σw : L2.St) (vs : List Nat) (Q : VK) (H2 : Hp) : Prop :=
  ∀ Sb, H2 Sb = none → ∃ (n : Nat) (bs : Nat → Option Int) (C : Nat → Hp → Prop), bs 0 = none ∧ C 0 (upd H2 Sb (.lst [])) ∧ ∀ i H, C i H → H Sb = some (.lst (lsB (bs i))) ∧ ((i = n ∧ J.stop i H ∧ ∃ k, bs i = some k ∧ Q (.int k) (upd H Sb (.lst []))) ∨
    (i < n ∧ J.go i H ∧ ∀ x H1, J.yld i H x H1 → g x σw H1 fun σ2 H2 => wipe σ2 vs = σw ∧ te σ2 H2 fun y H3 => ∃ k, y = .int k ∧ H3 Sb = some (.lst (lsB (bs i))) ∧ bs (i + 1) = some (mnV (bs i) k) ∧ C (i + 1) (upd H3 Sb (.lst (lsB (bs (i + 1)))))))
def tGxM (P : Addr) (wi : TI) (g : TG) (te : TE) (vs : List Nat) : TE := fun σ H Q => wi σ H fun J H1 => TabG H1 P ∧ ∀ H2, Tabbed P H1 H2 → GxWantM J g te (wipe σ vs) vs Q H2
section
variable {X : Cx} {pins : List (Addr × Obj)} {σ : L2.St} {H : Hp} {s : Shared}
theorem bestAt_of {Sb : Addr} {b : Option Int} (I : Inv X pins σ H s) (h : H Sb = some (.lst (lsB b))) : BestAt s.heap Sb b := by
  obtain ⟨its, n, r, e, _⟩ := I.lst h
  cases b with
  | none =>
    cases r
    exact ⟨n, e⟩
  | some k =>
    cases r with
    | cons r1 t =>
      cases t with
      | cons r2 t2 =>
        cases t2
        obtain ⟨u1, h1⟩ := r1
        obtain ⟨u2, h2⟩ := r2
        subst h1 h2
        exact ⟨n, u1, u2, e⟩
/-- min's list is written anew -/
theorem best_put {Sb : Addr} {b : Option Int} {ys : List V} {its' : List Value} (I : Inv X pins σ H s) (h : H Sb = some (.lst (lsB b))) (hv : Vals ys its') (hz : ys.length ≤ sizeLine) :
    Inv X pins σ (upd H Sb (.lst ys)) { s with heap := s.heap.update Sb (Obj.mapSeq fun _ => its'.toArray) } := by
  obtain ⟨its, n, r, e, _⟩ := I.lst h
  exact I.lset (t' := s.toks) h e (f := fun _ => its'.toArray) rfl hv hz
theorem BestAt.put {h : Heap} {S : Addr} {b : Option Int} (hb : BestAt h S b) (k : Int) (t : Tok) : ∃ c : Nat, BestAt (h.update S (Obj.mapSeq fun _ => #[.int k t, .int k t])) S (some k) := by
  cases b with
  | none =>
    obtain ⟨c, e⟩ := hb
    exact ⟨c, _, t, t, Heap.get?_update_self _ e rfl⟩
  | some j =>
    obtain ⟨c, u1, u2, e⟩ := hb
    exact ⟨c, _, t, t, Heap.get?_update_self _ e rfl⟩
theorem upd_id {H : Hp} {a : Addr} {o : HO} (h : H a = some o) : upd H a o = H := funext fun b => by
  by_cases z : b = a
  · rw [z, upd_same, h]
  · exact upd_ne z
theorem mn_bet {b : Option Int} {k : Int} (h : betV b k = true) : mnV b k = k := by
  cases b with
  | none => rfl
  | some j => exact if_pos (of_decide_eq_true h)
theorem mn_not {b : Option Int} {k : Int} (h : betV b k = false) : some (mnV b k) = b := by
  cases b with
  | none => cases h
  | some j => exact congrArg some (if_neg (of_decide_eq_false h))
variable {c P : Addr} {elt tg iter : Expr} {gpos pos p : Pos} {scope : Scope} {own : List (Str × Nat)} {wi : TI} {g : TG} {te : TE} {k : Nat} {Q : VK} {J : It} {H2 : Hp} {s5 : Shared}
theorem gx_runM (hr : Room (k + 1) X.A) (hc : X.calm = true) (ok : GxOk X.N X.env.scope scope own) (M : GxMade X pins σ own (gxOne elt tg iter scope gpos) tg scope J H2 s5)
    (pg : ∀ (A' : Around) (s : Shared) (H : Hp) (code : Value) (fp : List Addr), Room k A' → PG (gxX X A' s H (gxEnv X scope s code) fp) tg g) (pe : ∀ (A' : Around) (s : Shared) (H : Hp) (code : Value) (fp : List Addr), Room k A' → PE (gxX X A' s H (gxEnv X scope s code) fp) elt te)
    (hw : GxWantM J g te (wipe σ (own.map fun p : Str × Nat => p.2)) (own.map fun p : Str × Nat => p.2) Q H2) : wpAny (model X.prog X.w) X.A (call (.builtin "min") [.ref M.a]) (EP X pins σ Q) X.xe s5 := by
  have hS2 : H2 s5.heap.objs.size = none := M.I5.fresh
  obtain ⟨n, bs, C, b0, c0, step⟩ := hw _ hS2
  have z2 : 2 ≤ sizeLine := by decide
  have hroom := gx_room (it := M.it) (s4 := M.s4) (code := M.code) hr (e := gxOne elt tg iter scope gpos) rfl
  have hpn : (M.a, M.go) ∈ (gxZ X (gxOne elt tg iter scope gpos) scope M.s4 H2 M.code M.fp M.it).pn ++ [(M.a, M.go)] := List.mem_append_right _ (List.mem_singleton_self _)
  generalize hSb : s5.heap.objs.size = Sb at hS2 c0 step
  let Yd : Nat → V → Slp → Shared → Prop := fun m y S s => ∃ kk, y = .int kk ∧ BestAt s.heap Sb (bs (n - m)) ∧ bs (n - m + 1) = some (mnV (bs (n - m)) kk) ∧ (betV (bs (n - m)) kk = true → ∀ t, S { s with heap := s.heap.update Sb (Obj.mapSeq fun _ => #[.int kk t, .int kk t]) }) ∧ (betV (bs (n - m)) kk = false → S s)
  let Dn : Nat → Slp := fun m s => m = 1 ∧ ∃ H kk, bs n = some kk ∧ Inv X pins σ H s ∧ H Sb = some (.lst (lsB (some kk))) ∧ Q (.int kk) (upd H Sb (.lst []))
  have I6 : Inv (gxZ X (gxOne elt tg iter scope gpos) scope M.s4 H2 M.code M.fp M.it) [(M.a, M.go)] (wipe σ (own.map fun p : Str × Nat => p.2)) (upd H2 Sb (.lst [])) { s5 with heap := s5.heap.push { cls := .type "list", data := .seq #[] } } := by
    have := M.I5.lnew (ys := []) (its := []) (t' := s5.toks) .nil (Nat.zero_le _)
    rw [hSb] at this
    exact this
  have neFp : ∀ b ∈ M.fp, b ≠ Sb := fun b hb z => by
    have h1 := (M.nf b hb).2
    have h2 : M.s4.heap.objs.size < M.a := M.ga
    have h3 : M.a < s5.heap.objs.size := Heap.lt_size (M.I5.pin _ hpn).1
    rw [z, ← hSb] at h1
    exact Nat.lt_irrefl _ (Nat.lt_trans (Nat.lt_trans h1 h2) h3)
  have h6 : gxS (gxZ X (gxOne elt tg iter scope gpos) scope M.s4 H2 M.code M.fp M.it) [(M.a, M.go)] (wipe σ (own.map fun p : Str × Nat => p.2)) M.fp M.tn C 0 { s5 with heap := s5.heap.push { cls := .type "list", data := .seq #[] } } :=
    ⟨_, I6, M.T.keep _ _ _ M.st fun b _ o e => Heap.get?_push_of_some _ e, fun b hb => (upd_ne (neFp b hb)).trans (M.nf b hb).1.1, c0⟩
  have goes : ∀ s2, gxS (gxZ X (gxOne elt tg iter scope gpos) scope M.s4 H2 M.code M.fp M.it) [(M.a, M.go)] (wipe σ (own.map fun p : Str × Nat => p.2)) M.fp M.tn C 0 s2 → Seg (model X.prog X.w) X.A.in1.in1 (fun m a r b => r = .ok .next ∧ gxR Dn m a b) (gxY M.a M.go Yd) (n + 1) s2 (gx0 (gxOne elt tg iter scope gpos) 0 M.it (gxEnv X scope M.s4 M.code)) ((model X.prog X.w).den (gx0 (gxOne elt tg iter scope gpos) 0 M.it (gxEnv X scope M.s4 M.code))) [] s2 := fun s2 h2 => by
    refine gx_seg1 (Z := gxZ X (gxOne elt tg iter scope gpos) scope M.s4 H2 M.code M.fp M.it) (n := n) (C := C) (vs := own.map fun p : Str × Nat => p.2) (YH := fun i y H3 => ∃ kk, y = .int kk ∧ H3 Sb = some (.lst (lsB (bs i))) ∧ bs (i + 1) = some (mnV (bs i) kk) ∧ C (i + 1) (upd H3 Sb (.lst (lsB (bs (i + 1)))))) hc rfl (fun e s z => z) ok.co hpn M.T (pg _ _ _ _ _ hroom) (pe _ _ _ _ _ hroom) (gx_fpall M) (fun {σ2} e => by rw [← e, wipe_length]) (fun i H ci => ((step i H ci).2).imp (fun ⟨z1, z2, _⟩ => ⟨z1, z2⟩) fun z => z)
      (fun i y H s lt I st' nf ⟨kk, ey, hl, hb, cn⟩ => ?_) (fun s H I ci => ?_) s2 s2 h2
    · obtain ⟨h1, h2⟩ := step n H ci
      rcases h2 with ⟨_, _, kk, e, q⟩ | ⟨lt, _⟩
      · exact ⟨by omega, H, kk, e, gx_back M I, by rw [← e]; exact h1, q⟩
      · omega
    · have e : n - (n + 1 - (i + 1)) = i := by omega
      show ∃ kk, _
      rw [e]
      refine ⟨kk, ey, bestAt_of I hl, hb, fun hbt t => ?_, fun hbf => ?_⟩
      · rw [hb, mn_bet hbt] at cn
        exact ⟨_, best_put I hl (ys := [.int kk, .int kk]) (its' := [.int kk t, .int kk t]) (.cons ⟨t, rfl⟩ (.cons ⟨t, rfl⟩ .nil)) z2, M.T.keep _ _ _ st' fun b hb o e => (Heap.get?_update_other _ _ (Ne.symm (neFp b hb))).trans e, fun b hb => (upd_ne (neFp b hb)).trans (nf b hb), cn⟩
      · rw [show bs (i + 1) = bs i from hb.trans (mn_not hbf), upd_id hl] at cn
        exact ⟨H, I, st', nf, cn⟩
  subst hSb
  refine call_minI (M.gen _ (M.I5.pin _ hpn).1) (fun m b s1 => m ≤ n + 1 ∧ b = bs (n + 1 - m) ∧ BestAt s1.heap s5.heap.objs.size b ∧ GxLive X.prog X.w X.A.in1 M.a M.go Yd Dn M.gi m s1) (fun m b s1 hJ => ?_) (m := n + 1) ⟨Nat.le_refl _, by rw [Nat.sub_self, b0], ⟨0, Heap.get?_push_size _ rfl⟩, ⟨_, _, M.gs, gxS_ok hpn 0, h6, fun s2 h2 => ⟨rfl, goes s2 h2⟩⟩⟩
  obtain ⟨hm, eb, hba, live⟩ := hJ
  refine ⟨hba, wpAny_mono (gx_next (E := fun _ _ => False) (hr.in1).hd (hr.in1).depth M.gen (fun m s G h' ⟨e, H, kk, e2, I, hl, q⟩ hG hk => ⟨e, H, kk, e2, Inv.kept (s := { s with gens := G }) (t' := s.toks) (Inv.gens I hG) hk, hl, q⟩) (fun m y S s G so ⟨kk, e, hb, e2, q1, q2⟩ hG => ⟨kk, e, hb, e2, fun h t => so.gens _ G (q1 h t) hG, fun h => so.gens s G (q2 h) hG⟩) live) (fun r s2 hg => ?_) fun _ _ z => z⟩
  rcases hg with ⟨er, em, H, kk, ebn, I, hl, q⟩ | ⟨v, y, S, er, rv, ⟨kk, ey, hbb, hbn, q1, q2⟩, nx⟩
  · subst em
    have eb : b = some kk := eb.trans ebn
    subst eb
    exact ⟨bestAt_of I hl, .inl ⟨er, kk, rfl, fun t => ⟨.int kk, _, best_put I hl (ys := []) (its' := []) .nil (Nat.zero_le _), ⟨t, rfl⟩, q⟩⟩⟩
  · subst ey
    obtain ⟨t, ev⟩ := rv
    subst ev
    have hm0 : 0 < m := by
      cases hbt : betV (bs (n - (m - 1))) kk with
      | true => exact (nx _ (by exact rfl) (q1 hbt t)).1
      | false => exact (nx _ rfl (q2 hbt)).1
    have ei : n - (m - 1) = n + 1 - m := by omega
    have ei2 : n + 1 - (m - 1) = n + 1 - m + 1 := by omega
    rw [ei] at hbb hbn q1 q2
    rw [← eb] at hbb hbn q1 q2
    refine ⟨hbb, .inr ⟨kk, t, er, m - 1, by omega, fun h => ?_, fun h => ?_⟩⟩
    · obtain ⟨c1, hx⟩ := hbb.put kk t
      exact ⟨by omega, by rw [ei2, hbn, mn_bet h], hx, (nx _ (by exact rfl) (q1 h t)).2⟩
    · exact ⟨by omega, by rw [ei2, hbn, mn_not h], hbb, (nx _ rfl (q2 h)).2⟩
end
end Sk
set_option Elab.async false
set_option linter.all false
set_option maxRecDepth 100000
set_option maxHeartbeats 4100000
/-! Sk40: min(..) of a generator expression, typed. -/
namespace Sk
open PySem L2 Evl PyProof.Rows GenW
open GxR (TabB TabG Tabbed)
section
variable {X : Cx} {c P : Addr} {elt tg iter : Expr} {gpos pos p : Pos} {scope : Scope} {own : List (Str × Nat)} {wi : TI} {g : TG} {te : TE} {k : Nat}
theorem pe_gxMin (hr : Room (k + 1) X.A) (hg : Gl X "min") (hm : X.mg "min" = none) (hb : bootBuiltins "min" = some (.builtin "min")) (TB : TabB X.base X.mg c P) (hcode : X.env.code = .ref c) (ok : GxOk X.N X.env.scope scope own) (hN : X.N.Nodup) (hc : X.calm = true) (hi : PI X tg iter wi)
    (pg : ∀ (A' : Around) (s : Shared) (H : Hp) (code : Value) (fp : List Addr), Room k A' → PG (gxX X A' s H (gxEnv X scope s code) fp) tg g) (pe : ∀ (A' : Around) (s : Shared) (H : Hp) (code : Value) (fp : List Addr), Room k A' → PE (gxX X A' s H (gxEnv X scope s code) fp) elt te)
    (hs : ∀ v, genFold iter X.env v = pure v) (he : starEach [gxOne elt tg iter scope gpos] X.env = (false, eval (gxOne elt tg iter scope gpos) X.env) :: starEach [] X.env := by rfl) :
    PE X (.Call (.Name "min" p) [gxOne elt tg iter scope gpos] [] pos) (tGxM P wi g te (own.map fun p : Str × Nat => p.2)) := by
  refine ⟨fun pins s σ H Q I h => wpAny_Call_Name_kw (ld_blt I hg hm hb (PyProof.Rows.callWith_builtin1 ?_ he (by rfl)))⟩
  rw [he]
  show wpAny _ _ (spliced ((false, eval (gxOne elt tg iter scope gpos) X.env) :: backTo pos (starEach [] X.env))) _ _ s
  refine Calls.spliced_cons (gx_make (own := own) (R := fun J H2 => GxWantM J g te (wipe σ (own.map fun p : Str × Nat => p.2)) (own.map fun p : Str × Nat => p.2) Q H2) hr TB hcode ok hN hc hi hs I h fun J H2 s5 M hR => Calls.spliced_nil ?_)
  exact gx_runM hr hc ok M pg pe hR
end
def bL : Option Int → List Int
  | none => []
  | some k => [k, k]
def minO {α : Type} (f : α → Int) (xs : List α) : Option Int := xs.foldl (fun b x => some (mnV b (f x))) none
theorem ls_rep {K : Fg} {G : Hp} (b : Option Int) : (oLst rInt).rep K G (.lst (lsB b)) (bL b) := by
  cases b with
  | none => exact ⟨[], rfl, trivial⟩
  | some k => exact ⟨[.int k, .int k], rfl, rfl, rfl, trivial⟩
theorem ls_of {K : Fg} {G : Hp} {o : HO} {b : Option Int} (h : (oLst rInt).rep K G o (bL b)) : o = .lst (lsB b) := by
  obtain ⟨ws, e, h⟩ := h
  cases b with
  | none =>
    match ws, h with
    | [], _ => exact e
  | some k =>
    match ws, h with
    | [_, _], ⟨h1, h2, _⟩ =>
      rw [e, show _ = V.int k from h1, show _ = V.int k from h2]
      rfl
section
variable {ι : Type} {F : ι → Cx} {K : Fg} {B : Bs} {Γ : Gm} {O : List Own} {α : Type} {ra : Rp α} {e tg elt iter : Expr} {n : Str} {p pos gpos : Pos} {scope : Scope}
variable {P : Program} {w : World} {mg : Str → Option Value} {base : Heap} {k : Nat}
theorem d_gxMin [fam : Fam F P w K mg base (k + 1)] (own : List (Str × Nat)) (vs : List Nat) (P0 : Addr) (hP0 : P0 ∈ B.T) (tb : TabF F P0) (ok : ∀ i, GxOk (F i).N (F i).env.scope scope own) {Γ' : Gm} [hw : WipeG Γ vs Γ'] {js : List Nat} {f : α → Int} {Φ : Int → List Own → Prop} (hm : mg "min" = none)
    (h : DI F K B Γ O tg iter ra fun xs O1 => O1 = O ∧ (∀ gg D ys x, x ∈ xs → DG (gxF F k scope) K (B.push gg) Γ' (⟨D, oLst rInt, ys⟩ :: O) tg ra x js fun Γ2 => DW (gxF F k scope) K (B.push gg) Γ2 (⟨D, oLst rInt, ys⟩ :: O) elt rInt fun y O3 => y = f x ∧ O3 = ⟨D, oLst rInt, ys⟩ :: O) ∧ ∃ m, minO f xs = some m ∧ Φ m O)
    (hv : own.map (·.2) = vs := by rfl) (hjs : ∀ j ∈ js, j ∈ vs := by decide) (hg : ∀ i, Gl (F i) "min" := by intro _; rfl) (hs : ∀ i v, genFold iter (F i).env v = pure v := by intro _ _; rfl)
    (he : ∀ i, starEach [gxOne elt tg iter scope gpos] (F i).env = (false, eval (gxOne elt tg iter scope gpos) (F i).env) :: starEach [] (F i).env := by intro _; rfl) :
    DW F K B Γ O (.Call (.Name "min" p) [gxOne elt tg iter scope gpos] [] pos) rInt Φ := by
  intro σ G H W Q q
  refine ⟨tGxM P0 (WI F tg iter) (WG (gxF F k scope) tg) (WE (gxF F k scope) elt) (own.map fun p : Str × Nat => p.2), fun i => ?_, ?_⟩
  · obtain ⟨c, tb1, tb2⟩ := tb i
    exact pe_gxMin (fam.rm i) (hg i) (by rw [fam.mg i]; exact hm) bt_min tb1 tb2 (ok i) (fam.nd i) (fam.cm i) (WI.pi i) (fun A' s H code fp hr => WG.pg (F := gxF F k scope) (i, ⟨A', hr⟩, s, H, code, fp)) (fun A' s H code fp hr => WE.pe (F := gxF F k scope) (i, ⟨A', hr⟩, s, H, code, fp)) (hs i) (he i)
  refine h σ G H W _ fun xs J O1 G1 H1 ⟨e1, hst, m, hmin, hΦ⟩ gv W1 ee => ?_
  subst e1
  refine ⟨(W1.tab P0 hP0).1, fun H2 tb Sb hSb => ?_⟩
  have W2 := W1.tabbed hP0 tb
  rw [show (own.map fun p : Str × Nat => p.2) = vs from hv]
  have hG : ∀ {G' : Hp}, Ex G1 G' → EnvR K G' σ Γ := fun e => W.env.mono (ee.trans e)
  refine ⟨xs.length, fun i => minO f (xs.take i), fun i H => i ≤ xs.length ∧ ∃ G2, Ws K (B.push G1) Γ' (⟨Sb, oLst rInt, bL (minO f (xs.take i))⟩ :: O1) (wipe σ vs) G2 H, rfl, ⟨Nat.zero_le _, G1, (W2.base.env' (hw.env (hG (Ex.refl _)))).newOwn hSb (ls_rep none)⟩, ?_⟩
  rintro i H3 ⟨hi, G3, W3⟩
  have eb : Ex G1 G3 := W3.bs G1 List.mem_cons_self
  have hown : H3 Sb = some (.lst (lsB (minO f (xs.take i)))) := by
    obtain ⟨o, h1, h2⟩ := Ws.ownO (p := Sb) (r := oLst rInt) (x := bL (minO f (xs.take i))) (f := fun w => w :: O1) inferInstance W3
    rw [h1, ls_of h2]
  refine ⟨hown, ?_⟩
  by_cases hlt : i < xs.length
  · refine .inr ⟨hlt, gv.go i G3 H3 hlt eb W3.sub, fun v H4 y => ?_⟩
    obtain ⟨x, G4, hx, s4, r4⟩ := gv.yld i G3 H3 v H4 hlt eb W3.sub y
    have hnext : minO f (xs.take (i + 1)) = some (mnV (minO f (xs.take i)) (f x)) := by
      obtain ⟨h1, h2⟩ := List.getElem?_eq_some_iff.mp hx
      rw [List.take_succ_eq_append_getElem h1, h2]
      unfold minO
      rw [List.foldl_append]
      rfl
    refine hst G1 Sb _ x (List.mem_of_getElem? hx) (wipe σ vs) G4 H4 v (W3.step s4) r4 _ fun Γ2 σ2 q2 W4 wp => ⟨(wp vs hjs).trans wipe_wipe, ?_⟩
    refine q2 σ2 G4 H4 W4 _ fun b O5 u G5 H5 ⟨eb5, eo⟩ W5 e5 r5 => ?_
    subst eo
    have e15 : Ex G1 G5 := W5.bs G1 List.mem_cons_self
    have hown5 : H5 Sb = some (.lst (lsB (minO f (xs.take i)))) := by
      obtain ⟨o, h1, h2⟩ := Ws.ownO (p := Sb) (r := oLst rInt) (x := bL (minO f (xs.take i))) (f := fun w => w :: O1) inferInstance W5
      rw [h1, ls_of h2]
    refine ⟨b, r5, hown5, by show minO f (xs.take (i + 1)) = some (mnV (minO f (xs.take i)) b); rw [hnext, eb5], hlt, G5, ?_⟩
    exact (W5.env' (hw.env (hG e15))).mutO (r := oLst rInt) (x := bL (minO f (xs.take i))) (r' := oLst rInt) (f := fun w => w :: O1) (ls_rep _)
  · obtain rfl : i = xs.length := by omega
    refine .inl ⟨rfl, gv.stop G3 H3 eb W3.sub, m, by show minO f (xs.take xs.length) = some m; rw [List.take_length]; exact hmin, ?_⟩
    have W6 := (W3.mutO (p := Sb) (r := oLst rInt) (x := bL (minO f (xs.take xs.length))) (r' := oLst rInt) (x' := bL none) (f := fun w => w :: O1) (o := .lst []) (ls_rep none)).perm (O' := O1) (fun w hw => List.mem_cons_of_mem _ hw) fun z => (List.nodup_cons.mp z).2
    exact q m O1 (.int m) G3 _ hΦ (W6.unbase.env' (hG eb)) (ee.trans eb) rfl
end
end Sk
set_option Elab.async false
set_option linter.all false
set_option maxRecDepth 100000
set_option maxHeartbeats 4100000
/-! Sk41: one of two kinds of things; x in xs, data of any depth; == of such. -/
namespace Sk
open PySem L2 Evl
section
variable {α β γ : Type}
def rSum (ra : Rp α) (rb : Rp β) : Rp (α ⊕ β) := ⟨fun K G v x => match x with
  | .inl a => ra.rep K G v a
  | .inr b => rb.rep K G v b, fun {K G G' v x} e h => by
    cases x with
    | inl a => exact ra.mono e h
    | inr b => exact rb.mono e h⟩
instance notNonSum {ra : Rp α} {rb : Rp β} [ha : NotNon ra] [hb : NotNon rb] : NotNon (rSum ra rb) := ⟨fun {K G v x} h => by
  cases x with
  | inl a => exact ha.ne h
  | inr b => exact hb.ne h⟩
variable {ι : Type} {F : ι → Cx} {K : Fg} {B : Bs} {Γ : Gm} {O : List Own} {ra : Rp α} {rb : Rp β} {rc : Rp γ} {e : Expr}
theorem d_inl {Φ : α ⊕ β → List Own → Prop} (h : DW F K B Γ O e ra fun x O' => Φ (.inl x) O') : DW F K B Γ O e (rSum ra rb) Φ := fun σ G H W Q q =>
  h σ G H W Q fun x O' v G' H' kk W' e' hv => q (.inl x) O' v G' H' kk W' e' hv
theorem d_inr {Φ : α ⊕ β → List Own → Prop} (h : DW F K B Γ O e rb fun x O' => Φ (.inr x) O') : DW F K B Γ O e (rSum ra rb) Φ := fun σ G H W Q q =>
  h σ G H W Q fun x O' v G' H' kk W' e' hv => q (.inr x) O' v G' H' kk W' e' hv
variable {X : Cx} {D : Ends} {rest : List Stmt}
/-! ### == -/
/-- unlike data -/
class Unl (enc : α → PyData) (enc' : β → PyData) : Prop where
  ne : ∀ x y, PyData.eqv (enc x) (enc' y) = false
  en : ∀ x y, PyData.eqv (enc' y) (enc x) = false
abbrev encSum (enc : α → PyData) (enc' : β → PyData) : α ⊕ β → PyData := fun x => match x with
  | .inl a => enc a
  | .inr b => enc' b
abbrev goodSum (g : α → Prop) (g' : β → Prop) : α ⊕ β → Prop := fun x => match x with
  | .inl a => g a
  | .inr b => g' b
instance datSum {enc : α → PyData} {enc' : β → PyData} {n m : Nat} {good : α → Prop} {good' : β → Prop} [ha : Dat ra enc n good] [hb : Dat rb enc' m good'] [hu : Unl enc enc'] : Dat (rSum ra rb) (encSum enc enc') (max n m) (goodSum good good') where
  dp := fun {K G H v x} e h => by
    cases x with
    | inl a => exact ha.dp e h
    | inr b => exact hb.dp e h
  lay := fun {x} h => by
    cases x with
    | inl a => exact ha.lay h
    | inr b => exact hb.lay h
  dep := fun x => by
    cases x with
    | inl a => exact Nat.le_trans (ha.dep a) (Nat.le_max_left _ _)
    | inr b => exact Nat.le_trans (hb.dep b) (Nat.le_max_right _ _)
  eqv := fun x y => by
    cases x with
    | inl a =>
      cases y with
      | inl a' => exact (ha.eqv a a').trans ⟨fun h => by rw [h], fun h => by injection h⟩
      | inr b => exact ⟨fun h => (by rw [show PyData.eqv (encSum enc enc' (.inl a)) (encSum enc enc' (.inr b)) = false from hu.ne a b] at h; cases h), fun h => (by cases h)⟩
    | inr b =>
      cases y with
      | inl a => exact ⟨fun h => (by rw [show PyData.eqv (encSum enc enc' (.inr b)) (encSum enc enc' (.inl a)) = false from hu.en a b] at h; cases h), fun h => (by cases h)⟩
      | inr b' => exact (hb.eqv b b').trans ⟨fun h => by rw [h], fun h => by injection h⟩
abbrev encOpt (enc : α → PyData) : Option α → PyData := fun x => match x with
  | none => PyData.none
  | some y => enc y
instance (priority := low) datOpt {enc : α → PyData} {n : Nat} {good : α → Prop} [hr : Dat ra enc n good] [hu : Unl (fun _ : Unit => PyData.none) enc] : Dat (rOpt ra) (encOpt enc) n (fun x => ∀ y, x = some y → good y) where
  dp := fun {K G H v x} e h => by
    cases x with
    | none =>
      rw [show v = V.non from h]
      exact .non
    | some y => exact hr.dp e h.2
  lay := fun {x} h => by
    cases x with
    | none => rfl
    | some y => exact hr.lay (h y rfl)
  dep := fun x => by
    cases x with
    | none => exact Nat.zero_le _
    | some y => exact hr.dep y
  eqv := fun x y => by
    cases x with
    | none =>
      cases y with
      | none => exact ⟨fun _ => rfl, fun _ => rfl⟩
      | some b => exact ⟨fun h => (by rw [show PyData.eqv (encOpt enc none) (encOpt enc (some b)) = false from hu.ne () b] at h; cases h), fun h => (by cases h)⟩
    | some a =>
      cases y with
      | none => exact ⟨fun h => (by rw [show PyData.eqv (encOpt enc (some a)) (encOpt enc none) = false from hu.en () a] at h; cases h), fun h => (by cases h)⟩
      | some b => exact (hr.eqv a b).trans ⟨fun h => by rw [h], fun h => by injection h⟩
instance unlNT {enc : α → List PyData} : Unl (fun _ : Unit => PyData.none) (fun x => PyData.tuple (enc x)) := ⟨fun _ _ => rfl, fun _ _ => rfl⟩
instance unlNL {enc : α → List PyData} : Unl (fun _ : Unit => PyData.none) (fun x => PyData.list (enc x)) := ⟨fun _ _ => rfl, fun _ _ => rfl⟩
instance unlNI : Unl (fun _ : Unit => PyData.none) PyData.int := ⟨fun _ _ => rfl, fun _ _ => rfl⟩
instance unlNS : Unl (fun _ : Unit => PyData.none) PyData.str := ⟨fun _ _ => rfl, fun _ _ => rfl⟩
instance unlIT {enc : α → List PyData} : Unl PyData.int (fun x => PyData.tuple (enc x)) := ⟨fun _ _ => rfl, fun _ _ => rfl⟩
instance unlIS : Unl PyData.int PyData.str := ⟨fun _ _ => rfl, fun _ _ => rfl⟩
instance unlST {enc : α → List PyData} : Unl PyData.str (fun x => PyData.tuple (enc x)) := ⟨fun _ _ => rfl, fun _ _ => rfl⟩
instance unlNSum {enc : α → PyData} {enc' : β → PyData} [ha : Unl (fun _ : Unit => PyData.none) enc] [hb : Unl (fun _ : Unit => PyData.none) enc'] : Unl (fun _ : Unit => PyData.none) (encSum enc enc') := ⟨fun x y => by
  cases y with
  | inl a => exact ha.ne x a
  | inr b => exact hb.ne x b, fun x y => by
  cases y with
  | inl a => exact ha.en x a
  | inr b => exact hb.en x b⟩
/-! ### in -/
variable {P : Program} {w : World} {mg : Str → Option Value} {base : Heap} {k : Nat}
end
end Sk
set_option Elab.async false
set_option linter.all false
set_option maxRecDepth 100000
set_option maxHeartbeats 4100000
/-! Sk42: sum(..) of a generator expression over ints. -/
namespace Sk
open PySem L2 Evl PyProof.Rows GenW
open GxR (TabB TabG Tabbed inv_tab)
/-- what sum's own list holds -/
def SumAt (h : Heap) (S : Addr) (b : Int) : Prop := ∃ (c : Nat) (t : Tok), h.get? S = some { cls := .type "list", dict := none, data := .seq #[.int b t] c, slots := #[] }
section
variable {X : Cx} {pins : List (Addr × Obj)} {σ : L2.St} {H : Hp} {s : Shared}
theorem SumAt.put {h : Heap} {S : Addr} {b : Int} (hb : SumAt h S b) (k : Int) (t : Tok) : SumAt (h.update S (Obj.mapSeq fun _ => #[.int k t])) S k := by
  obtain ⟨c, u, e⟩ := hb
  exact ⟨c, t, Heap.get?_update_self _ e rfl⟩
theorem upd2 {H : Hp} {a : Addr} {o o' : HO} : upd (upd H a o) a o' = upd H a o' := funext fun b => by
  by_cases z : b = a
  · rw [z, upd_same, upd_same]
  · rw [upd_ne z, upd_ne z, upd_ne z]
variable {c P : Addr} {elt tg iter : Expr} {gpos pos p : Pos} {scope : Scope} {own : List (Str × Nat)} {wi : TI} {g : TG} {te : TE} {k : Nat} {Q : VK} {J : It} {H2 : Hp} {s5 : Shared}
end
end Sk
set_option Elab.async false
set_option linter.all false
set_option maxRecDepth 100000
set_option maxHeartbeats 4100000
/-! Sk43: tuple * int. -/
namespace Sk
open PySem PySem.Spec PyProof.Rows L2 Evl
section
variable {ι : Type} {F : ι → Cx} {K : Fg} {B : Bs} {Γ : Gm} {O : List Own} {α β : Type} {ra : Rp α} {rb : Rp β} {e : Expr}
theorem All2.rep {p : V → β → Prop} {vs : List V} {xs : List β} (h : All2 p vs xs) : ∀ n : Nat, All2 p (List.replicate n vs).flatten (List.replicate n xs).flatten
  | 0 => trivial
  | n + 1 => by
    rw [List.replicate_succ, List.replicate_succ, List.flatten_cons, List.flatten_cons]
    exact h.append (h.rep n)
end
end Sk
set_option Elab.async false
set_option linter.all false
set_option maxRecDepth 100000
set_option maxHeartbeats 4100000
/-! Sk44: own exceptions told by a Hook. -/
namespace Sk
open PySem L2 Evl
/-- an own exception class: its name, its __init__, its fields -/
structure XcD where
  n : Str
  qual : Str
  st : Stmt
  fs : List Str
abbrev FnB : Type := Option (Str × Str × Arguments × FuncBody × Scope × Addr × Value × Addr)
abbrev XcD.f (K : Fg) (x : XcD) : Addr := He.fAd K (x.n, some "__init__")
abbrev XcD.c (K : Fg) (x : XcD) : Addr := He.ga K x.n
def fnB (K : Fg) (x : XcD) : FnB := match K.lookup (x.f K) with
  | some ⟨_, _, .func fd, _⟩ => some (fd.name, fd.qualname, fd.params, fd.body, fd.scope, fd.globals, fd.defaults, fd.builtins)
  | _ => none
def XcD.val (x : XcD) : FnB := some ("__init__", x.qual, defArgs x.st, .stmts (defBody x.st), defScope x.st, mainGlobals, .none, builtinsNs)
def clB (K : Fg) (C : Addr) : Bool := match K.lookup C with
  | some ⟨.type "type", _, .cls cd, sl⟩ => (match cd.mro, sl.toList with
    | .ref C' :: bm, [_, _, _, _, some (.builtin n), _] => C' == C && (n == "ValueError.__new__" && (!cd.hasDel && (cd.hasDict && PySem.HandSPX.refsVE bm)))
    | _, _ => false)
  | _ => false
def coB (K : Fg) (file : Str) (v : Value) : Bool := match v with
  | .ref cda => (match K.lookup cda with
    | some ⟨_, _, .fields vs, _⟩ => (match (vs[2]? : Option Value) with
      | some (Value.str f _) => file == f
      | _ => false)
    | _ => false)
  | _ => false
def ceB (K : Fg) (C : Addr) (cl : List (Str × Addr)) : Bool := match cl with
  | [(x, cc)] => decide (x = "__class__") && (match K.lookup cc with
    | some ⟨_, _, .cell (some (.ref C')), _⟩ => C' == C
    | _ => false)
  | _ => false
def fdB (K : Fg) (file : Str) (x : XcD) : Bool := match K.lookup (x.f K) with
  | some ⟨_, _, .func fd, _⟩ => PySem.W.codeIn K fd.code x.qual && (coB K file fd.code && ceB K (x.c K) fd.closure)
  | _ => false
def XcD.ok (K : Fg) (file : Str) (x : XcD) : Bool :=
  clB K (x.c K) && (decide (PySem.W.findIn K (.ref (x.c K)) "__setattr__" = some (some (.builtin "object.__setattr__"))) && (decide (PySem.W.subIn K (.ref (x.c K)) (.type "BaseException") = some true) && (decide (PySem.W.typeIn K (.ref (x.c K)) = some (.type "type")) && (PySem.W.keepIn K (.ref (x.c K)) &&
  (decide (PySem.W.nsIn K mainGlobals x.n = some (some (.ref (x.c K)))) && (decide (PySem.W.findIn K (.ref (x.c K)) "__init__" = some (some (.ref (x.f K)))) && (decide (PySem.W.typeIn K (.ref (x.f K)) = some (.type "function")) && (fdB K file x &&
  (decide (PySem.W.mroIn K (x.c K) (.ref (x.c K)) = some true) && (decide (PySem.W.ks_superIn K (x.c K) (x.c K) "__init__" = some (some (.builtin "ValueError.__init__"))) && (decide (PySem.W.subIn K (.ref (x.c K)) (.type "ValueError") = some true) && (decide (PySem.W.nsIn K cStatics "thirdparty.any" = some none) && (PySem.W.isClsIn K (x.c K) &&
  (decide (PySem.W.subIn K (.ref (x.c K)) (.ref (x.c K)) = some true) && (xfB K (x.c K) && x.fs.all fun f => decide (PySem.W.findIn K (.ref (x.c K)) f = some none))))))))))))))))
end Sk
set_option Elab.async false
set_option linter.all false
set_option maxRecDepth 100000
set_option maxHeartbeats 4100000
/-! Sk45: dict(d); d != e of dicts of deep data; constants that are tuples. -/
namespace Sk
open PySem PySem.Spec PyProof.Rows L2 Evl
/-! ### constants -/
end Sk
set_option Elab.async false
set_option linter.all false
set_option maxRecDepth 100000
set_option maxHeartbeats 4100000
/-! Sk46: a def that makes generators and may raise. -/
namespace Sk
open PySem PySem.Spec PyProof.Rows L2 Evl
open GxR (TabB TabG Tabbed)
end Sk
set_option Elab.async false
set_option linter.all false
set_option maxRecDepth 100000
set_option maxHeartbeats 4100000
/-! Sk47: min, max of a tuple of ints. -/
namespace Sk
open PySem PySem.Spec PyProof.Rows L2 Evl
end Sk
set_option Elab.async false
set_option linter.all false
set_option maxRecDepth 100000
set_option maxHeartbeats 4100000
/-! Sk48: xs.reverse() of an own list. -/
namespace Sk
open PySem L2 Evl
section
variable {ι : Type} {F : ι → Cx} {K : Fg} {B : Bs} {Γ : Gm} {O : List Own} {α : Type} {ra : Rp α} {o : Expr} {pos apos : Pos} {P : Program} {w : World} {mg : Str → Option Value} {base : Heap} {k : Nat}
theorem All2.reverse {p : V → α → Prop} : ∀ {vs : List V} {xs : List α}, All2 p vs xs → All2 p vs.reverse xs.reverse
  | [], [], _ => trivial
  | v :: vs, x :: xs, ⟨h1, h2⟩ => by
    rw [List.reverse_cons, List.reverse_cons]
    exact (All2.reverse h2).append ⟨h1, trivial⟩
  | [], _ :: _, z => z.elim
  | _ :: _, [], z => z.elim
end
end Sk
set_option Elab.async false
set_option linter.all false
set_option maxRecDepth 100000
set_option maxHeartbeats 4100000
/-! Sk49: x < y and sorted(..) of data of any depth; max(t, default=n). -/
namespace Sk
open PySem PySem.Spec PyProof.Rows L2 Evl
open PySem.W (alike alikeAll dataLt dataLe keyToks AllAlike Sortable EachIs rcLt_alike sorted_data)
/-! ### raw rules -/
/-! ### typed -/
class Alk {α : Type} (r : Rp α) (enc : outParam (α → PyData)) : Prop where
  al : ∀ x y, alike (enc x) (enc y) = true
  nn : ∀ x, enc x ≠ .none
class AlkF {α : Type} (f : RpF α) (enc : outParam (α → List PyData)) : Prop where
  al : ∀ x y, alikeAll (enc x) (enc y) = true
section
variable {α β γ : Type}
theorem al_map {r : Rp α} {enc : α → PyData} (hr : Alk r enc) : ∀ xs ys : List α, alikeAll (xs.map enc) (ys.map enc) = true
  | [], _ => by simp [alikeAll]
  | _ :: _, [] => by simp [alikeAll]
  | x :: xs, y :: ys => by
    rw [List.map_cons, List.map_cons, alikeAll, hr.al x y, al_map hr xs ys]
    rfl
instance alkInt : Alk rInt PyData.int := ⟨fun _ _ => by simp [alike], fun _ h => nomatch h⟩
instance alkStr : Alk rStr PyData.str := ⟨fun _ _ => by simp [alike], fun _ h => nomatch h⟩
instance alkTpv {r : Rp α} {enc : α → PyData} [hr : Alk r enc] : Alk (rTpv r) (fun xs => PyData.tuple (xs.map enc)) := ⟨fun x y => by simp only [alike]; exact al_map hr x y, fun _ h => nomatch h⟩
instance alkLst {r : Rp α} {enc : α → PyData} [hr : Alk r enc] : Alk (rLst r) (fun xs => PyData.list (xs.map enc)) := ⟨fun x y => by simp only [alike]; exact al_map hr x y, fun _ h => nomatch h⟩
instance alkOne {r : Rp α} {enc : α → PyData} [hr : Alk r enc] : AlkF (fOne r) (fun x => [enc x]) := ⟨fun x y => by rw [alikeAll, hr.al x y]; simp [alikeAll]⟩
instance alkCons {r : Rp α} {enc : α → PyData} {f : RpF β} {enc' : β → List PyData} [hr : Alk r enc] [hf : AlkF f enc'] : AlkF (fCons r f) (fun x => enc x.1 :: enc' x.2) := ⟨fun x y => by rw [alikeAll, hr.al x.1 y.1, hf.al x.2 y.2]; rfl⟩
instance alkTup {f : RpF β} {enc : β → List PyData} [hf : AlkF f enc] : Alk (rTup f) (fun x => PyData.tuple (enc x)) := ⟨fun x y => by simp only [alike]; exact hf.al x y, fun _ h => nomatch h⟩
variable {ι : Type} {F : ι → Cx} {K : Fg} {B : Bs} {Γ : Gm} {O : List Own} {ra : Rp α} {rb : Rp β} {e e2 : Expr} {es : List Expr} {pos p kp : Pos} {n : Str}
variable {P : Program} {w : World} {mg : Str → Option Value} {base : Heap} {k : Nat}
end
end Sk
set_option Elab.async false
set_option linter.all false
set_option maxRecDepth 100000
set_option maxHeartbeats 4100000
/-! Sk50: sum of a tuple of ints; x in t, x not in t (flat items); stars of tuples. -/
namespace Sk
open PySem PySem.Spec PyProof.Rows L2 Evl
/-! ### x in t -/
/-- flat things: == is equality -/
class Flt {α : Type} (r : Rp α) (mk : outParam (α → V)) : Prop where
  rep : ∀ {K : Fg} {G : Hp} {v : V} {x : α}, r.rep K G v x → v = mk x
  flat : ∀ x, flatV (mk x) = true
  eqv : ∀ x y, eqV (mk x) (mk y) = true ↔ x = y
instance fltInt : Flt rInt V.int := ⟨fun h => h, fun _ => rfl, fun x y => by show (x == y) = true ↔ _; simp⟩
instance fltStr : Flt rStr V.str := ⟨fun h => h, fun _ => rfl, fun x y => by show (x == y) = true ↔ _; simp⟩
section
variable {α β γ : Type}
theorem flt_all {r : Rp α} {mk : α → V} (hf : Flt r mk) {K : Fg} {G : Hp} : ∀ {vs : List V} {xs : List α}, All2 (r.rep K G) vs xs → vs = xs.map mk
  | [], [], _ => rfl
  | _ :: _, _ :: _, ⟨a, b⟩ => by rw [List.map_cons, hf.rep a, flt_all hf b]
  | [], _ :: _, z => z.elim
  | _ :: _, [], z => z.elim
theorem flt_in {r : Rp α} {mk : α → V} (hf : Flt r mk) [DecidableEq α] (x : α) (xs : List α) : inV (mk x) (xs.map mk) = decide (x ∈ xs) := by
  unfold inV
  rw [List.any_map, Bool.eq_iff_iff, List.any_eq_true, decide_eq_true_eq]
  constructor
  · rintro ⟨y, hy, e⟩
    rw [← (hf.eqv y x).mp e]
    exact hy
  · intro h
    exact ⟨x, h, (hf.eqv x x).mpr rfl⟩
theorem flt_flat {r : Rp α} {mk : α → V} (hf : Flt r mk) (xs : List α) : (xs.map mk).all flatV = true := by
  rw [List.all_map, List.all_eq_true]
  exact fun x _ => hf.flat x
variable {ι : Type} {F : ι → Cx} {K : Fg} {B : Bs} {Γ : Gm} {O : List Own} {ra : Rp α} {rb : Rp β} {e : Expr} {es : List Expr} {pos p : Pos}
variable {P : Program} {w : World} {mg : Str → Option Value} {base : Heap} {k : Nat}
end
end Sk
set_option Elab.async false
set_option linter.all false
set_option maxRecDepth 100000
set_option maxHeartbeats 4100000
/-! Sk51: xs.index(y) of data of any depth; t + u, empty or not; list(t). -/
namespace Sk
open PySem PySem.Spec PyProof.Rows L2 Evl
end Sk
set_option Elab.async false
set_option linter.all false
set_option maxRecDepth 100000
set_option maxHeartbeats 4100000
/-! Sk52: the signs of a text walked; len of a text; a sign in a text; try: e except C: continue. -/
namespace Sk
open PySem PySem.Spec PyProof.Rows L2 Evl
/-! ### try: e except C: continue -/
end Sk
set_option Elab.async false
set_option linter.all false
set_option maxRecDepth 100000
set_option maxHeartbeats 4100000
/-! Sk53: k not in d; x in xs, x not in xs (flat items); a op b op c op d as a test. -/
namespace Sk
open PySem PySem.Spec PyProof.Rows L2 Evl
section
variable {ι : Type} {F : ι → Cx} {K : Fg} {B : Bs} {Γ : Gm} {O : List Own} {α β γ : Type} {ra : Rp α} {rb : Rp β} {i o : Expr} {pos p : Pos}
variable {P : Program} {w : World} {mg : Str → Option Value} {base : Heap} {k : Nat}
theorem o_inL {mk : α → V} [hf : Flt ra mk] [DecidableEq α] {x : α} {y : β} {xs : List α} [hl : LsR O rb y ra xs] {Ψ : Bool → List Own → Prop} (kk : Ψ (decide (x ∈ xs)) O) (hK : ∀ j, (F j).K = K := by intro _; rfl) : OW F K B Γ O (compareOp .In) ra rb x y rBool Ψ := fun σ G H v w W rv rw Q q => by
  obtain ⟨c, ws, h1, h2, h3⟩ := hl.get W rw
  have e := flt_all hf h3
  subst e
  exact ⟨rIn K false, fun j => by rw [← hK j]; exact op_in_seq, c, xs.map mk, h1, .inl h2, by rw [hf.rep rv]; exact hf.flat x, flt_flat hf xs, q _ O _ G H kk W (Ex.refl _) (by rw [hf.rep rv]; exact congrArg V.bl (flt_in hf x xs))⟩
theorem o_notInL {mk : α → V} [hf : Flt ra mk] [DecidableEq α] {x : α} {y : β} {xs : List α} [hl : LsR O rb y ra xs] {Ψ : Bool → List Own → Prop} (kk : Ψ (!decide (x ∈ xs)) O) (hK : ∀ j, (F j).K = K := by intro _; rfl) : OW F K B Γ O (compareOp .NotIn) ra rb x y rBool Ψ := fun σ G H v w W rv rw Q q => by
  obtain ⟨c, ws, h1, h2, h3⟩ := hl.get W rw
  have e := flt_all hf h3
  subst e
  exact ⟨rIn K true, fun j => by rw [← hK j]; exact op_notIn_seq, c, xs.map mk, h1, .inl h2, by rw [hf.rep rv]; exact hf.flat x, flt_flat hf xs, q _ O _ G H kk W (Ex.refl _) (by rw [hf.rep rv]; exact congrArg (fun b => V.bl (!b)) (flt_in hf x xs))⟩
end
end Sk
namespace L2
open PySem PySem.Spec PyProof.Rows
end L2
namespace Sk
open PySem L2 Evl
end Sk
set_option Elab.async false
set_option linter.all false
set_option maxRecDepth 100000
set_option maxHeartbeats 4100000
/-! Sk54: part of a text; str(n). -/
namespace Sk
open PySem PySem.Spec PyProof.Rows L2 Evl
end Sk
set_option Elab.async false
set_option linter.all false
set_option maxRecDepth 100000
set_option maxHeartbeats 4100000
/-! Sk55: try: x = e except C: continue. -/
namespace Sk
open PySem PySem.Spec PyProof.Rows L2 Evl
end Sk
set_option Elab.async false
set_option linter.all false
set_option maxRecDepth 100000
set_option maxHeartbeats 1500000
/-! Sk56: lists of unlike things; values with their places told; != of lists that hold the same. -/
namespace Sk
open PySem PySem.Spec PyProof.Rows L2 Evl
open PySem.SeqAt (EqAt RcAt RcNeAt)
/-- a list of unlike things -/
def rHl {α : Type} (f : RpF α) : Rp α := ⟨fun K G v x => ∃ a vs, v = .ref a ∧ G a = some (.lst vs) ∧ f.rep K G vs x, fun e ⟨a, vs, h1, h2, h3⟩ => ⟨a, vs, h1, e _ _ h2, f.mono e h3⟩⟩
/-- a thing and where it stands -/
def rTg {α : Type} (r : Rp α) : Rp (Addr × α) := ⟨fun K G v x => v = .ref x.1 ∧ r.rep K G v x.2, fun e ⟨h1, h2⟩ => ⟨h1, r.mono e h2⟩⟩
section
variable {ι : Type} {F : ι → Cx} {K : Fg} {B : Bs} {Γ : Gm} {O : List Own} {α β γ : Type} {ra : Rp α} {rb : Rp β} {e : Expr} {es : List Expr} {pos : Pos}
variable {P : Program} {w : World} {mg : Str → Option Value} {base : Heap} {k : Nat}
theorem d_hl {f : RpF α} {m : Nat} [hl : Len f m] {Φ : α → List Own → Prop} (h : DA F K B Γ O es f Φ) (hm : m ≤ sizeLine := by decide) : DW F K B Γ O (.List es pos) (rHl f) Φ := by
  intro σ G H W Q q
  refine ⟨_, fun i => pe_lst (WA.pa i), ?_⟩
  refine h σ G H W _ fun x O1 vs G1 H1 k W1 e1 r1 => ⟨by rw [hl.len r1]; exact hm, fun p hp => ?_⟩
  have s : Stp B.T [] G1 H1 (upd G1 p (.lst vs)) (upd H1 p (.lst vs)) := Stp.new W1.sub hp
  exact q x O1 _ _ _ k (W1.step s) (e1.trans s.g) ⟨p, vs, rfl, upd_same, f.mono s.g r1⟩
theorem i_hl {f : RpF α} {x : α} (i : Nat) {r : Rp β} {g : α → β} [hf : FAt f i r g] {Φ : β → List Own → Prop} (k : Φ (g x) O) (hK : ∀ j, (F j).K = K := by intro _; rfl) : IW F K B Γ O (rHl f) rInt x ((OfNat.ofNat i : Nat) : Int) r Φ := by
  intro σ G H v w W rv rw Q q
  obtain ⟨a, vs, h1, h2, h3⟩ := rv
  obtain ⟨u, h4, h5⟩ := hf.get h3
  exact ⟨rIxL K, fun j => by rw [← hK j]; exact ix_list, a, vs, (i : Int), u, h1, rw, SqL.of (W.sub _ _ h2), atI_nat h4, q _ O u G H k W (Ex.refl _) h5⟩
end
/-- the same thing, the same text; tuples and lists of such -/
def SmV (K : Fg) (H : Hp) : Nat → V → V → Prop
  | 0, x, y => (∃ a, x = .ref a ∧ y = .ref a) ∨ ∃ s, x = .str s ∧ y = .str s
  | n + 1, x, y => SmV K H n x y ∨ ∃ a b xs ys, x = .ref a ∧ y = .ref b ∧ ((SqT K H a xs ∧ SqT K H b ys) ∨ (SqL K H a xs ∧ SqL K H b ys)) ∧ xs.length = ys.length ∧ ∀ (i : Nat) u v, xs[i]? = some u → ys[i]? = some v → SmV K H n u v
/-- what two values of a kind must be to be the same -/
class Smo {α β : Type} (r : Rp α) (r' : Rp β) (n : outParam Nat) (R : outParam (α → β → Prop)) : Prop where
  sm : ∀ {K : Fg} {G H : Hp} {v u : V} {x : α} {y : β}, Ex G H → r.rep K G v x → r'.rep K G u y → R x y → SmV K H n v u
class SmoF {α β : Type} (f : RpF α) (f' : RpF β) (n : outParam Nat) (R : outParam (α → β → Prop)) : Prop where
  len : ∀ {K : Fg} {G : Hp} {vs us : List V} {x : α} {y : β}, f.rep K G vs x → f'.rep K G us y → vs.length = us.length
  sm : ∀ {K : Fg} {G H : Hp} {vs us : List V} {x : α} {y : β}, Ex G H → f.rep K G vs x → f'.rep K G us y → R x y → ∀ (i : Nat) v u, vs[i]? = some v → us[i]? = some u → SmV K H n v u
theorem smv_le {K : Fg} {H : Hp} {n : Nat} : ∀ {m : Nat} {x y : V}, n ≤ m → SmV K H n x y → SmV K H m x y
  | 0, x, y, h, z => by
    have : n = 0 := by omega
    subst this
    exact z
  | m + 1, x, y, h, z => by
    by_cases e : n = m + 1
    · subst e
      exact z
    · exact .inl (smv_le (by omega) z)
instance smStr : Smo rStr rStr 0 (fun x y => x = y) := ⟨fun _ h1 h2 e => .inr ⟨_, h1, by rw [e]; exact h2⟩⟩
instance smTg {α β : Type} {r : Rp α} {r' : Rp β} : Smo (rTg r) (rTg r') 0 (fun x y => x.1 = y.1) := ⟨fun _ h1 h2 e => .inl ⟨_, h1.1, by rw [e]; exact h2.1⟩⟩
/-- pairs of lists -/
def Two {α β : Type} (R : α → β → Prop) (xs : List α) (ys : List β) : Prop := xs.length = ys.length ∧ ∀ (i : Nat) x y, xs[i]? = some x → ys[i]? = some y → R x y
theorem all2_at {α : Type} {p : V → α → Prop} : ∀ {vs : List V} {xs : List α} {i : Nat} {v : V}, All2 p vs xs → vs[i]? = some v → ∃ x, xs[i]? = some x ∧ p v x
  | _ :: _, _ :: _, 0, _, ⟨a, _⟩, h => by
    have h := Option.some.inj h
    subst h
    exact ⟨_, rfl, a⟩
  | _ :: _, _ :: _, i + 1, _, ⟨_, b⟩, h => by
    obtain ⟨x, h1, h2⟩ := all2_at b (by simpa using h)
    exact ⟨x, by simpa using h1, h2⟩
  | [], [], _, _, _, h => by simp at h
  | [], _ :: _, _, _, z, _ => z.elim
  | _ :: _, [], _, _, z, _ => z.elim
instance smLst {α β : Type} {r : Rp α} {r' : Rp β} {n : Nat} {R : α → β → Prop} [h : Smo r r' n R] : Smo (rLst r) (rLst r') (n + 1) (Two R) := ⟨fun {K G H v u x y} ex ⟨a, vs, e1, h1, p1⟩ ⟨b, us, e2, h2, p2⟩ ⟨hl, hr⟩ =>
  .inr ⟨a, b, vs, us, e1, e2, .inr ⟨SqL.of (ex _ _ h1), SqL.of (ex _ _ h2)⟩, by rw [p1.length, p2.length]; exact hl, fun i w z hw hz => by
    obtain ⟨x', hx, rx⟩ := all2_at p1 hw
    obtain ⟨y', hy, ry⟩ := all2_at p2 hz
    exact h.sm ex rx ry (hr i _ _ hx hy)⟩⟩
instance smOne {α β : Type} {r : Rp α} {r' : Rp β} {n : Nat} {R : α → β → Prop} [h : Smo r r' n R] : SmoF (fOne r) (fOne r') n R := ⟨fun ⟨v, e1, _⟩ ⟨u, e2, _⟩ => by rw [e1, e2]; rfl, fun ex ⟨v, e1, h1⟩ ⟨u, e2, h2⟩ hr i w z hw hz => by
  subst e1 e2
  cases i with
  | zero =>
    rw [← Option.some.inj hw, ← Option.some.inj hz]
    exact h.sm ex h1 h2 hr
  | succ i => simp at hw⟩
instance smCons {α β α' β' : Type} {r : Rp α} {r' : Rp β} {f : RpF α'} {f' : RpF β'} {n m : Nat} {R : α → β → Prop} {R' : α' → β' → Prop} [h : Smo r r' n R] [hf : SmoF f f' m R'] : SmoF (fCons r f) (fCons r' f') (max n m) (fun x y => R x.1 y.1 ∧ R' x.2 y.2) :=
  ⟨fun ⟨v, ws, e1, _, h1⟩ ⟨u, zs, e2, _, h2⟩ => by rw [e1, e2, List.length_cons, List.length_cons, hf.len h1 h2], fun ex ⟨v, ws, e1, h1, k1⟩ ⟨u, zs, e2, h2, k2⟩ hr i w z hw hz => by
  subst e1 e2
  cases i with
  | zero =>
    rw [← Option.some.inj hw, ← Option.some.inj hz]
    exact smv_le (Nat.le_max_left _ _) (h.sm ex h1 h2 hr.1)
  | succ i => exact smv_le (Nat.le_max_right _ _) (hf.sm ex k1 k2 hr.2 i _ _ (by simpa using hw) (by simpa using hz))⟩
instance smTup {α β : Type} {f : RpF α} {f' : RpF β} {n : Nat} {R : α → β → Prop} [h : SmoF f f' n R] : Smo (rTup f) (rTup f') (n + 1) R := ⟨fun {K G H v u x y} ex ⟨a, vs, e1, h1, p1⟩ ⟨b, us, e2, h2, p2⟩ hr =>
  .inr ⟨a, b, vs, us, e1, e2, .inl ⟨ex_t ex h1, ex_t ex h2⟩, h.len p1 p2, h.sm ex p1 p2 hr⟩⟩
end Sk
set_option Elab.async false
set_option linter.all false
set_option maxRecDepth 100000
set_option maxHeartbeats 4100000
/-! Sk57: hookY with the places of the part written out: the search for them is what made the head of a large law run out of memory. -/
namespace Sk
open PySem L2 Evl
def Kas (as : List Addr) (g : Addr → Option Obj) : Fg := He.frT g (cStatics :: as)
def obsL (as : List Addr) (fa : List He.Fa) (fn : List He.DefD) (ts : List He.Tab) (tf : List He.Defn) (ex : Fg → Bool) (g : Addr → Option Obj) : He.AlX := (He.obsT fa fn ts (Kas as g), ex (Kas as g) && He.tabsB g tf (Kas as g))
theorem saysL_of {as : List Addr} {fa : List He.Fa} {fn : List He.DefD} {ts : List He.Tab} {tf : List He.Defn} {ex : Fg → Bool} {w : World} {h : Heap} (e : obsL as fa fn ts tf ex h.get? = He.valX fn ts w) : He.SaysX fa fn ts tf ex w h (Kas as h.get?) := by
  have e1 : He.obsT fa fn ts (Kas as h.get?) = He.valT fn ts w := congrArg (fun z : He.AlX => z.1) e
  have e2 : (ex (Kas as h.get?) && He.tabsB h.get? tf (Kas as h.get?)) = true := congrArg (fun z : He.AlX => z.2) e
  obtain ⟨h1, h2⟩ := He.ba e2
  have key : ∀ p ∈ tf, PySem.W.codeHdIn (Kas as h.get?) (He.cT (Kas as h.get?) p).1 (He.cT (Kas as h.get?) p).2 = true ∧ ∃ o, h.get? (He.cT (Kas as h.get?) p).2 = some o ∧ He.emptyTab o = true := fun p hp => by
    obtain ⟨h3, h4⟩ := He.ba (List.all_eq_true.mp h2 p hp)
    refine ⟨h3, ?_⟩
    cases q : h.get? (He.cT (Kas as h.get?) p).2 with
    | none =>
      rw [q] at h4
      cases h4
    | some o =>
      rw [q] at h4
      exact ⟨o, rfl, h4⟩
  exact ⟨e1, h1, fun p hp => (key p hp).1, fun p hp => by
    obtain ⟨_, o, q, z⟩ := key p hp
    exact He.frT_none q z, fun p hp => by
    obtain ⟨_, o, q, z⟩ := key p hp
    rw [q, He.emptyTab_eq z]⟩
def hookL (as : List Addr) (fa : List He.Fa) (fn : List He.DefD) (ts : List He.Tab) (tf : List He.Defn) (ex : PySem.W.Frag → Bool) (xs : List XcD) : PySem.W.Hook where
  α := He.AlX × List FnB
  obs := fun s => (obsL as fa fn ts tf ex s.heap.get?, xs.map (fnB (Kas as s.heap.get?)))
  val := fun w => (He.valX fn ts w, xs.map XcD.val)
  says := fun w h => ∃ K : PySem.W.Frag, K.In h ∧ He.SaysX fa fn ts tf ex w h K ∧ xs.map (fnB K) = xs.map XcD.val
  of := fun _ _ e => ⟨_, He.frT_in, saysL_of (congrArg Prod.fst e), congrArg Prod.snd e⟩
  keeps := fun _ _ _ ⟨K, hK, c, e⟩ k => ⟨K, PySem.W.Frag.In.keeps hK k, ⟨c.t, c.more, c.hd, c.out, fun p hp => k _ _ (c.empty p hp)⟩, e⟩
end Sk
set_option Elab.async false
set_option linter.all false
set_option maxRecDepth 100000
set_option maxHeartbeats 4100000
/-! Sk58: min(..) of a generator expression with two clauses. -/
namespace Sk
open PySem L2 Evl PyProof.Rows GenW
open GxR (TabB TabG Tabbed inv_tab)
section
variable {Z : Cx} {pn : List (Addr × Obj)} {σw : L2.St} {fp : List Addr} {tn : Nat → Heap → Prop} {n : Nat} {Yd : Nat → V → Slp → Shared → Prop} {Dn : Nat → Slp} {J : It} {g g2 : TG} {te : TE} {vs vs2 : List Nat} {a : Addr} {go : Obj} {wi2 : TI}
theorem gx_seg2k {A : Around} {elt tg iter tg2 iter2 : Expr} {scope : Scope} {pos : Pos} {it : Addr} {C : Nat → Nat → Hp → Prop} {YH : Nat → V → Hp → (Hp → Prop) → Prop} (hc : Z.calm = true) (hA : Z.A = A.over (gxC (gxTwo elt tg iter tg2 iter2 scope pos) 0 it Z.env) []) (hx : ∀ e s, ¬ Z.xe e s) (hco : Z.env.scope.isCoroutine = false) (hpn : (a, go) ∈ Z.pn ++ pn)
    (T : Turn Z.prog Z.w Z.K tg J fp it tn) (pg : PG Z tg g) (pi : PI Z tg2 iter2 wi2) (pg2 : PG Z tg2 g2) (pe : PE Z elt te) (hst : FpAll Z pn fp) (hw : ∀ {σ2 : L2.St}, wipe σ2 vs = σw → σw.length = σ2.length) (hvs : ∀ j ∈ vs2, j ∈ vs) (hs2 : ∀ x, foldedSetIterable iter2 Z.env x = pure x)
    (step : ∀ i f H, C i f H → (i = n ∧ J.stop i H) ∨ (i < n ∧ J.go i H ∧ ∀ x H1, J.yld i H x H1 → g x σw H1 fun σ2 H2 => wipe σ2 vs = σw ∧ wi2 σ2 H2 fun J2 H3 => ∃ (n2 : Nat) (C2 : Nat → Hp → Prop), n2 ≤ f ∧ C2 0 H3 ∧ (∀ H, C2 n2 H → C (i + 1) (f - n2) H) ∧
      ∀ j H, C2 j H → (j = n2 ∧ J2.stop j H) ∨ (j < n2 ∧ J2.go j H ∧ ∀ y H1, J2.yld j H y H1 → g2 y (wipe σ2 vs2) H1 fun σ3 H4 => wipe σ3 vs2 = wipe σ2 vs2 ∧ te σ3 H4 fun v H5 => YH (f + 1 - (j + 1)) v H5 (C2 (j + 1)))))
    (hY : ∀ (P1 : List (Addr × Obj)) (σ2 : L2.St) (fp2 : List Addr) (tn2 : Nat → Heap → Prop) (C2 : Nat → Hp → Prop) j m y H s, Inv Z P1 σ2 H s → tn2 (j + 1) s.heap → (∀ b ∈ fp2, H b = none) → (∀ h' : Heap, (∀ b ∈ fp2, ∀ o, s.heap.get? b = some o → h'.get? b = some o) → tn2 (j + 1) h') → YH m y H (C2 (j + 1)) → Yd m y (gxS Z P1 σ2 fp2 tn2 C2 (j + 1)) s) (hD : ∀ s f H, Inv Z pn σw H s → C n f H → Dn (f + 1) s) :
    ∀ (k i f : Nat) (s0 s : Shared), n - i = k → gxS2 Z pn σw fp tn C i f s →
      Seg (model Z.prog Z.w) A (fun m a r b => r = .ok .next ∧ gxR Dn m a b) (gxY a go Yd) (f + 1) s0 (gxC (gxTwo elt tg iter tg2 iter2 scope pos) 0 it Z.env) ((model Z.prog Z.w).den (gxC (gxTwo elt tg iter tg2 iter2 scope pos) 0 it Z.env)) [] s := by
  intro k
  induction k with
  | zero =>
    rintro i f s0 s hk ⟨H, I, st, nf, c⟩
    rcases step i f H c with ⟨e1, stop⟩ | ⟨lt, _⟩
    · subst e1
      have td := T.done Z rfl rfl rfl hc i pn s σw H (fun _ _ => False) I (hst I nf) st stop
      rw [hA] at td
      show Seg (model Z.prog Z.w) A _ _ _ s0 _ ((compTurn (gxTwo elt tg iter tg2 iter2 scope pos) 0 (.ref it) .none Z.env).onRaise (leaving Z.env)) [] s
      rw [gx_turn2a, Sem.onRaise_eq_wrap]
      refine seg_bind_wrap (wpAny_standAt (seg_bind_wrap (wpAny_mono td (fun r s1 ⟨er, I1⟩ => ?_) fun _ _ z => z.elim)))
      subst er
      exact seg_end (.ok .next) ⟨rfl, I1.bare, hD s1 f H I1 c⟩
    · omega
  | succ k ih =>
    rintro i f s0 s hk ⟨H, I, st, nf, c⟩
    rcases step i f H c with ⟨e1, _⟩ | ⟨lt, go', stp⟩
    · omega
    have ti := T.item Z rfl rfl rfl hc i pn s σw H (fun _ _ => False) I (hst I nf) st go'
    rw [hA] at ti
    show Seg (model Z.prog Z.w) A _ _ _ s0 _ ((compTurn (gxTwo elt tg iter tg2 iter2 scope pos) 0 (.ref it) .none Z.env).onRaise (leaving Z.env)) [] s
    rw [gx_turn2a, Sem.onRaise_eq_wrap]
    refine seg_bind_wrap (wpAny_standAt (seg_bind_wrap (wpAny_mono ti (fun r s1 ⟨u, er, h1⟩ => ?_) fun _ _ z => z.elim)))
    subst er
    refine seg_bind_wrap (wpAny_mono h1 (fun _ s2 ⟨x, H2, I2, r2, y2, st2, n2⟩ => ?_) fun _ _ z => z.elim)
    have I2p := I2.pinned (hst I2 n2) (T.obj _ _ st2)
    have hg := pg.run _ s2 _ H2 x u _ I2p r2 (stp x H2 y2)
    rw [hA] at hg
    refine seg_bind_wrap (wpAny_mono hg (fun _ s3 ⟨σ3, H3, I3, hw3, q3⟩ => ?_) fun _ _ z => (hx _ _ z).elim)
    have hi2 := pi.run _ s3 σ3 H3 _ I3 q3
    rw [hA] at hi2
    refine seg_bind_wrap (wpAny_mono hi2 (fun xv s4 h4 => ?_) fun _ _ z => (hx _ _ z).elim)
    refine seg_bind_wrap (wpAny_standAt (seg_bind_wrap (wpAny_of_eq (hs2 xv) (seg_bind_wrap (wpAny_holding (wpAny_mono h4 (fun itv s5 ⟨it2, fp2, tn2, J2, H5, e2, I5, T2, st5, f5, m2, C2, hm2, c20, cEnd, step2⟩ => ?_) fun _ _ z => (hx _ _ z).elim))))))
    subst e2
    refine seg_call fun p => ?_
    generalize hP1 : pn ++ pinsAt fp s2.heap = P1 at I5 f5
    have I5 : Inv Z P1 σ3 H5 s5 := I5
    have f5 : ∀ b ∈ fp2, FpOk Z P1 H5 b := f5
    have hpn1 : (a, go) ∈ Z.pn ++ P1 := by
      rw [← hP1]
      rcases List.mem_append.mp hpn with z | z
      · exact List.mem_append_left _ z
      · exact List.mem_append_right _ (List.mem_append_left _ z)
    have lenw : (wipe σ3 vs2).length = σ3.length := wipe_length _ _
    have I6 : Inv Z P1 (wipe σ3 vs2) H5 s5 := I5.weak lenw (fun j v e => (wipe_some e).1)
    have st1 : gxS Z P1 (wipe σ3 vs2) fp2 tn2 C2 0 s5 := ⟨H5, I6, st5, fun b hb => (f5 b hb).1, c20⟩
    refine gx_begin rfl (.inr ⟨_, rfl⟩) (fun A' Q E q => T2.self A' 0 s5 Q E st5 q) ?_
    refine gx_last (A := A) (e := gxTwo elt tg iter tg2 iter2 scope pos) (elt := elt) (tg := tg2) (iter := iter2) (d := 1) (it := it2) (pn := P1) (σw := wipe σ3 vs2) (fp := fp2) (tn := tn2) (C := C2) (n := m2) (Yd := Yd) (Dn := Dn) (J := J2) (g := g2) (te := te) (vs := vs2) (a := a) (go := go) (YH := fun j v H5 => YH (f + 1 - (j + 1)) v H5 (C2 (j + 1))) (fu := fun _ _ => True) hc (by rw [hA]; rfl) hx hco hpn1 rfl rfl ⟨_, id, id, rfl, by
        show (compTurn (gxTwo elt tg iter tg2 iter2 scope pos) 1 (.ref it2) .none Z.env).onRaise _ = _
        rw [gx_turn2b, Sem.onRaise_eq_wrap]⟩ T2 pg2 pe (fun {σ' H' s'} I' hn b hb => ⟨hn b hb, (f5 b hb).2⟩) (fun {σ2} e => by rw [← e, wipe_length]) (fun j => f + 1 - j) (fun j H c => (step2 j H c).imp (fun z => z) fun ⟨lt, z⟩ => ⟨lt, by omega, by omega, z⟩)
        (fun j y H s _ I st nf yh => hY P1 (wipe σ3 vs2) fp2 tn2 C2 j _ y H s I st nf (fun h' kp => T2.keep _ _ _ st fun b hb o e => kp b hb o e) yh) (fun s0 s6 H6 I7 c6 nf6 => ?_) (m2 - 0) 0 s0 s5 rfl st1
    · have pin : ∀ b ∈ fp, ∀ o, s2.heap.get? b = some o → s6.heap.get? b = some o ∧ H6 b = none := fun b hb o e =>
        let z := I7.pin (b, o) (List.mem_append_right _ (by rw [← hP1]; exact List.mem_append_right _ (mem_pinsAt hb e)))
        ⟨z.1, z.2.1⟩
      rw [← hP1] at I7
      have I8 : Inv Z pn σw H6 s6 := (I7.unpinned (pins := pn)).weak (by rw [hw hw3, lenw]) (fun j v e => by
        have e1 := e
        rw [← hw3] at e1
        obtain ⟨e2, e3⟩ := wipe_some e1
        rw [wipe_at, if_neg fun z => e3 (hvs j z)]
        exact e2)
      refine seg_leaf (.ok .next) ?_
      rw [show f + 1 - m2 = (f - m2) + 1 by omega]
      exact seg_again rfl (ih (i + 1) (f - m2) _ s6 (by omega) ⟨H6, I8, T.keep _ _ _ st2 fun b hb o e => (pin b hb o e).1, fun b hb => by
        obtain ⟨o, e, _⟩ := T.obj _ _ st2 b hb
        exact (pin b hb o e).2, cEnd H6 c6⟩)
end
/-- bs: the best of the first i -/
def GxWantM2 (J : It) (g : TG) (wi2 : TI) (g2 : TG) (te : TE) (σw : L2.St) (vs vs2 : List Nat) (Q : VK) (H2 : Hp) : Prop :=
  ∀ Sb, H2 Sb = none → ∃ (n f0 : Nat) (bs : Nat → Option Int) (C : Nat → Nat → Hp → Prop), bs 0 = none ∧ C 0 f0 (upd H2 Sb (.lst [])) ∧ ∀ i f H, C i f H → f ≤ f0 ∧ H Sb = some (.lst (lsB (bs (f0 - f)))) ∧ ((i = n ∧ J.stop i H ∧ f = 0 ∧ ∃ k, bs f0 = some k ∧ Q (.int k) (upd H Sb (.lst []))) ∨
    (i < n ∧ J.go i H ∧ ∀ x H1, J.yld i H x H1 → g x σw H1 fun σ2 H2 => wipe σ2 vs = σw ∧ wi2 σ2 H2 fun J2 H3 => ∃ (n2 : Nat) (C2 : Nat → Hp → Prop), n2 ≤ f ∧ C2 0 H3 ∧ (∀ H, C2 n2 H → C (i + 1) (f - n2) H) ∧
      ∀ j H, C2 j H → (j = n2 ∧ J2.stop j H) ∨ (j < n2 ∧ J2.go j H ∧ ∀ y H1, J2.yld j H y H1 → g2 y (wipe σ2 vs2) H1 fun σ3 H4 => wipe σ3 vs2 = wipe σ2 vs2 ∧ te σ3 H4 fun v H5 =>
        ∃ k, v = .int k ∧ H5 Sb = some (.lst (lsB (bs (f0 - (f - j))))) ∧ bs (f0 - (f - j) + 1) = some (mnV (bs (f0 - (f - j))) k) ∧ C2 (j + 1) (upd H5 Sb (.lst (lsB (bs (f0 - (f - j) + 1))))))))
def tGxM2 (P : Addr) (wi : TI) (g : TG) (wi2 : TI) (g2 : TG) (te : TE) (vs vs2 : List Nat) : TE := fun σ H Q => wi σ H fun J H1 => TabG H1 P ∧ ∀ H2, Tabbed P H1 H2 → GxWantM2 J g wi2 g2 te (wipe σ vs) vs vs2 Q H2
section
variable {X : Cx} {pins : List (Addr × Obj)} {σ : L2.St} {H : Hp} {s : Shared}
variable {c P : Addr} {elt tg iter tg2 iter2 : Expr} {gpos pos p : Pos} {scope : Scope} {own : List (Str × Nat)} {wi wi2 : TI} {g g2 : TG} {te : TE} {k : Nat} {Q : VK} {J : It} {H2 : Hp} {s5 : Shared}
theorem gx_runM2 (hr : Room (k + 1) X.A) (hc : X.calm = true) (ok : GxOk X.N X.env.scope scope own) (M : GxMade X pins σ own (gxTwo elt tg iter tg2 iter2 scope gpos) tg scope J H2 s5) {vs2 : List Nat} (hvs : ∀ j ∈ vs2, j ∈ own.map fun p : Str × Nat => p.2) (hs2 : ∀ (s : Shared) (code : Value) x, foldedSetIterable iter2 (gxEnv X scope s code) x = pure x)
    (pg : ∀ (A' : Around) (s : Shared) (H : Hp) (code : Value) (fp : List Addr), Room k A' → PG (gxX X A' s H (gxEnv X scope s code) fp) tg g) (pi : ∀ (A' : Around) (s : Shared) (H : Hp) (code : Value) (fp : List Addr), Room k A' → PI (gxX X A' s H (gxEnv X scope s code) fp) tg2 iter2 wi2)
    (pg2 : ∀ (A' : Around) (s : Shared) (H : Hp) (code : Value) (fp : List Addr), Room k A' → PG (gxX X A' s H (gxEnv X scope s code) fp) tg2 g2) (pe : ∀ (A' : Around) (s : Shared) (H : Hp) (code : Value) (fp : List Addr), Room k A' → PE (gxX X A' s H (gxEnv X scope s code) fp) elt te)
    (hw : GxWantM2 J g wi2 g2 te (wipe σ (own.map fun p : Str × Nat => p.2)) (own.map fun p : Str × Nat => p.2) vs2 Q H2) : wpAny (model X.prog X.w) X.A (call (.builtin "min") [.ref M.a]) (EP X pins σ Q) X.xe s5 := by
  have hS2 : H2 s5.heap.objs.size = none := M.I5.fresh
  obtain ⟨n, f0, bs, C, b0, c0, step⟩ := hw _ hS2
  have z2 : 2 ≤ sizeLine := by decide
  have hroom := gx_room (it := M.it) (s4 := M.s4) (code := M.code) hr (e := gxTwo elt tg iter tg2 iter2 scope gpos) rfl
  have hpn : (M.a, M.go) ∈ (gxZ X (gxTwo elt tg iter tg2 iter2 scope gpos) scope M.s4 H2 M.code M.fp M.it).pn ++ [(M.a, M.go)] := List.mem_append_right _ (List.mem_singleton_self _)
  generalize hSb : s5.heap.objs.size = Sb at hS2 c0 step
  let Yd : Nat → V → Slp → Shared → Prop := fun m y S s => ∃ kk, y = .int kk ∧ BestAt s.heap Sb (bs (f0 - m)) ∧ bs (f0 - m + 1) = some (mnV (bs (f0 - m)) kk) ∧ (betV (bs (f0 - m)) kk = true → ∀ t, S { s with heap := s.heap.update Sb (Obj.mapSeq fun _ => #[.int kk t, .int kk t]) }) ∧ (betV (bs (f0 - m)) kk = false → S s)
  let Dn : Nat → Slp := fun m s => m = 1 ∧ ∃ H kk, bs f0 = some kk ∧ Inv X pins σ H s ∧ H Sb = some (.lst (lsB (some kk))) ∧ Q (.int kk) (upd H Sb (.lst []))
  have I6 : Inv (gxZ X (gxTwo elt tg iter tg2 iter2 scope gpos) scope M.s4 H2 M.code M.fp M.it) [(M.a, M.go)] (wipe σ (own.map fun p : Str × Nat => p.2)) (upd H2 Sb (.lst [])) { s5 with heap := s5.heap.push { cls := .type "list", data := .seq #[] } } := by
    have := M.I5.lnew (ys := []) (its := []) (t' := s5.toks) .nil (Nat.zero_le _)
    rw [hSb] at this
    exact this
  have neFp : ∀ b ∈ M.fp, b ≠ Sb := fun b hb z => by
    have h1 := (M.nf b hb).2
    have h2 : M.s4.heap.objs.size < M.a := M.ga
    have h3 : M.a < s5.heap.objs.size := Heap.lt_size (M.I5.pin _ hpn).1
    rw [z, ← hSb] at h1
    exact Nat.lt_irrefl _ (Nat.lt_trans (Nat.lt_trans h1 h2) h3)
  have h6 : gxS2 (gxZ X (gxTwo elt tg iter tg2 iter2 scope gpos) scope M.s4 H2 M.code M.fp M.it) [(M.a, M.go)] (wipe σ (own.map fun p : Str × Nat => p.2)) M.fp M.tn C 0 f0 { s5 with heap := s5.heap.push { cls := .type "list", data := .seq #[] } } :=
    ⟨_, I6, M.T.keep _ _ _ M.st fun b _ o e => Heap.get?_push_of_some _ e, fun b hb => (upd_ne (neFp b hb)).trans (M.nf b hb).1.1, c0⟩
  have goes : ∀ s2, gxS2 (gxZ X (gxTwo elt tg iter tg2 iter2 scope gpos) scope M.s4 H2 M.code M.fp M.it) [(M.a, M.go)] (wipe σ (own.map fun p : Str × Nat => p.2)) M.fp M.tn C 0 f0 s2 → Seg (model X.prog X.w) X.A.in1.in1 (fun m a r b => r = .ok .next ∧ gxR Dn m a b) (gxY M.a M.go Yd) (f0 + 1) s2 (gx0 (gxTwo elt tg iter tg2 iter2 scope gpos) 0 M.it (gxEnv X scope M.s4 M.code)) ((model X.prog X.w).den (gx0 (gxTwo elt tg iter tg2 iter2 scope gpos) 0 M.it (gxEnv X scope M.s4 M.code))) [] s2 := fun s2 h2 => by
    have lp := gx_seg2k (Z := gxZ X (gxTwo elt tg iter tg2 iter2 scope gpos) scope M.s4 H2 M.code M.fp M.it) (A := X.A.in1.in1) (n := n) (C := C) (vs := own.map fun p : Str × Nat => p.2) (vs2 := vs2) (YH := fun m v H5 Nx => ∃ kk, v = .int kk ∧ H5 Sb = some (.lst (lsB (bs (f0 - m)))) ∧ bs (f0 - m + 1) = some (mnV (bs (f0 - m)) kk) ∧ Nx (upd H5 Sb (.lst (lsB (bs (f0 - m + 1)))))) (Yd := Yd) (Dn := Dn) hc rfl (fun e s z => z) ok.co hpn M.T (pg _ _ _ _ _ hroom) (pi _ _ _ _ _ hroom) (pg2 _ _ _ _ _ hroom) (pe _ _ _ _ _ hroom) (gx_fpall M) (fun {σ2} e => by rw [← e, wipe_length]) hvs (fun x => hs2 _ _ x)
      (fun i f H ci => by
        obtain ⟨hf, _, h2⟩ := step i f H ci
        rcases h2 with ⟨z1, z2, _⟩ | ⟨z1, z2, z3⟩
        · exact .inl ⟨z1, z2⟩
        · refine .inr ⟨z1, z2, fun x H1 y => ?_⟩
          have := z3 x H1 y
          simpa only [Nat.add_sub_add_right] using this)
      (fun P1 σ2 fp2 tn2 C2 j m y H s I st' nf kp ⟨kk, ey, hl, hb, cn⟩ => ?_) (fun s f H I ci => ?_) (n - 0) 0 f0 s2 s2 rfl h2
    · obtain ⟨H3, I3, st3, _⟩ := h2
      exact gx_begin rfl (.inl rfl) (fun A' Q E q => M.T.self A' 0 s2 Q E st3 q) lp
    · have ne2 : ∀ b ∈ fp2, b ≠ Sb := fun b hb z => by
        have h1 := nf b hb
        rw [z, hl] at h1
        cases h1
      show ∃ kk, _
      refine ⟨kk, ey, bestAt_of I hl, hb, fun hbt t => ?_, fun hbf => ?_⟩
      · rw [hb, mn_bet hbt] at cn
        exact ⟨_, best_put I hl (ys := [.int kk, .int kk]) (its' := [.int kk t, .int kk t]) (.cons ⟨t, rfl⟩ (.cons ⟨t, rfl⟩ .nil)) z2, kp _ fun b hb o e => (Heap.get?_update_other _ _ (Ne.symm (ne2 b hb))).trans e, fun b hb => (upd_ne (ne2 b hb)).trans (nf b hb), cn⟩
      · rw [show bs (f0 - m + 1) = bs (f0 - m) from hb.trans (mn_not hbf), upd_id hl] at cn
        exact ⟨H, I, st', nf, cn⟩
    · obtain ⟨hf, h1, h2⟩ := step n f H ci
      rcases h2 with ⟨_, _, ef, kk, e, q⟩ | ⟨lt, _⟩
      · refine ⟨by omega, H, kk, e, gx_back M I, ?_, q⟩
        rw [← e, h1, ef]
        rfl
      · omega
  subst hSb
  refine call_minI (M.gen _ (M.I5.pin _ hpn).1) (fun m b s1 => m ≤ f0 + 1 ∧ b = bs (f0 + 1 - m) ∧ BestAt s1.heap s5.heap.objs.size b ∧ GxLive X.prog X.w X.A.in1 M.a M.go Yd Dn M.gi m s1) (fun m b s1 hJ => ?_) (m := f0 + 1) ⟨Nat.le_refl _, by rw [Nat.sub_self, b0], ⟨0, Heap.get?_push_size _ rfl⟩, ⟨_, _, M.gs, gxS_ok hpn 0, h6, fun s2 h2 => ⟨rfl, goes s2 h2⟩⟩⟩
  obtain ⟨hm, eb, hba, live⟩ := hJ
  refine ⟨hba, wpAny_mono (gx_next (E := fun _ _ => False) (hr.in1).hd (hr.in1).depth M.gen (fun m s G h' ⟨e, H, kk, e2, I, hl, q⟩ hG hk => ⟨e, H, kk, e2, Inv.kept (s := { s with gens := G }) (t' := s.toks) (Inv.gens I hG) hk, hl, q⟩) (fun m y S s G so ⟨kk, e, hb, e2, q1, q2⟩ hG => ⟨kk, e, hb, e2, fun h t => so.gens _ G (q1 h t) hG, fun h => so.gens s G (q2 h) hG⟩) live) (fun r s2 hg => ?_) fun _ _ z => z⟩
  rcases hg with ⟨er, em, H, kk, ebn, I, hl, q⟩ | ⟨v, y, S, er, rv, ⟨kk, ey, hbb, hbn, q1, q2⟩, nx⟩
  · subst em
    have eb : b = some kk := eb.trans ebn
    subst eb
    exact ⟨bestAt_of I hl, .inl ⟨er, kk, rfl, fun t => ⟨.int kk, _, best_put I hl (ys := []) (its' := []) .nil (Nat.zero_le _), ⟨t, rfl⟩, q⟩⟩⟩
  · subst ey
    obtain ⟨t, ev⟩ := rv
    subst ev
    have hm0 : 0 < m := by
      cases hbt : betV (bs (f0 - (m - 1))) kk with
      | true => exact (nx _ (by exact rfl) (q1 hbt t)).1
      | false => exact (nx _ rfl (q2 hbt)).1
    have ei : f0 - (m - 1) = f0 + 1 - m := by omega
    have ei2 : f0 + 1 - (m - 1) = f0 + 1 - m + 1 := by omega
    rw [ei] at hbb hbn q1 q2
    rw [← eb] at hbb hbn q1 q2
    refine ⟨hbb, .inr ⟨kk, t, er, m - 1, by omega, fun h => ?_, fun h => ?_⟩⟩
    · obtain ⟨c1, hx⟩ := hbb.put kk t
      exact ⟨by omega, by rw [ei2, hbn, mn_bet h], hx, (nx _ (by exact rfl) (q1 h t)).2⟩
    · exact ⟨by omega, by rw [ei2, hbn, mn_not h], hbb, (nx _ rfl (q2 h)).2⟩
theorem pe_gxMin2 (hr : Room (k + 1) X.A) (hg : Gl X "min") (hm : X.mg "min" = none) (hb : bootBuiltins "min" = some (.builtin "min")) (TB : TabB X.base X.mg c P) (hcode : X.env.code = .ref c) (ok : GxOk X.N X.env.scope scope own) (hN : X.N.Nodup) (hc : X.calm = true) {vs2 : List Nat} (hvs : ∀ j ∈ vs2, j ∈ own.map fun p : Str × Nat => p.2) (hs2 : ∀ (s : Shared) (code : Value) x, foldedSetIterable iter2 (gxEnv X scope s code) x = pure x) (hi : PI X tg iter wi)
    (pg : ∀ (A' : Around) (s : Shared) (H : Hp) (code : Value) (fp : List Addr), Room k A' → PG (gxX X A' s H (gxEnv X scope s code) fp) tg g) (pi : ∀ (A' : Around) (s : Shared) (H : Hp) (code : Value) (fp : List Addr), Room k A' → PI (gxX X A' s H (gxEnv X scope s code) fp) tg2 iter2 wi2)
    (pg2 : ∀ (A' : Around) (s : Shared) (H : Hp) (code : Value) (fp : List Addr), Room k A' → PG (gxX X A' s H (gxEnv X scope s code) fp) tg2 g2) (pe : ∀ (A' : Around) (s : Shared) (H : Hp) (code : Value) (fp : List Addr), Room k A' → PE (gxX X A' s H (gxEnv X scope s code) fp) elt te)
    (hs : ∀ v, genFold iter X.env v = pure v) (he : starEach [gxTwo elt tg iter tg2 iter2 scope gpos] X.env = (false, eval (gxTwo elt tg iter tg2 iter2 scope gpos) X.env) :: starEach [] X.env := by rfl) :
    PE X (.Call (.Name "min" p) [gxTwo elt tg iter tg2 iter2 scope gpos] [] pos) (tGxM2 P wi g wi2 g2 te (own.map fun p : Str × Nat => p.2) vs2) := by
  refine ⟨fun pins s σ H Q I h => wpAny_Call_Name_kw (ld_blt I hg hm hb (PyProof.Rows.callWith_builtin1 ?_ he (by rfl)))⟩
  rw [he]
  show wpAny _ _ (spliced ((false, eval (gxTwo elt tg iter tg2 iter2 scope gpos) X.env) :: backTo pos (starEach [] X.env))) _ _ s
  refine Calls.spliced_cons (gx_make (own := own) (R := fun J H2 => GxWantM2 J g wi2 g2 te (wipe σ (own.map fun p : Str × Nat => p.2)) (own.map fun p : Str × Nat => p.2) vs2 Q H2) hr TB hcode ok hN hc hi hs I h fun J H2 s5 M hR => Calls.spliced_nil ?_)
  exact gx_runM2 hr hc ok M hvs hs2 pg pi pg2 pe hR
end
end Sk
set_option Elab.async false
set_option linter.all false
set_option maxRecDepth 100000
set_option maxHeartbeats 4100000
/-! Sk59: min(..) of a generator expression with two clauses, typed. -/
namespace Sk
open PySem L2 Evl PyProof.Rows GenW
open GxR (TabB TabG Tabbed)
section
variable {α β : Type} {l : α → List β} {f : α → β → Int}
def pairsM (l : α → List β) (f : α → β → Int) (xs : List α) : List Int := xs.flatMap fun x => (l x).map (f x)
def lensM (l : α → List β) (xs : List α) : Nat := (xs.map fun x => (l x).length).sum
theorem lens_cons (l : α → List β) (x : α) (xs : List α) : lensM l (x :: xs) = (l x).length + lensM l xs := by
  unfold lensM
  rw [List.map_cons, List.sum_cons]
theorem pairs_get : ∀ {xs : List α} {i j : Nat} {x : α} {y : β}, xs[i]? = some x → (l x)[j]? = some y → (pairsM l f xs)[lensM l (xs.take i) + j]? = some (f x y)
  | [], i, j, x, y, h, _ => by simp at h
  | z :: xs, 0, j, x, y, h, h2 => by
    have e : z = x := by simpa using h
    subst e
    have hj := (List.getElem?_eq_some_iff.mp h2).1
    show (pairsM l f (z :: xs))[lensM l [] + j]? = some (f z y)
    rw [show lensM l ([] : List α) = 0 from rfl, Nat.zero_add]
    unfold pairsM
    rw [List.flatMap_cons, List.getElem?_append_left (by rw [List.length_map]; exact hj), List.getElem?_map, h2]
    rfl
  | z :: xs, i + 1, j, x, y, h, h2 => by
    have ih := pairs_get (i := i) (j := j) (xs := xs) (by simpa using h) h2
    rw [List.take_succ_cons, lens_cons]
    show (List.flatMap _ (z :: xs))[_]? = _
    rw [List.flatMap_cons, List.getElem?_append_right (by rw [List.length_map]; omega), List.length_map, show (l z).length + lensM l (xs.take i) + j - (l z).length = lensM l (xs.take i) + j by omega]
    exact ih
theorem lens_split (l : α → List β) : ∀ (xs : List α) (i : Nat), lensM l (xs.take i) + lensM l (xs.drop i) = lensM l xs
  | [], i => by simp [lensM]
  | z :: xs, 0 => by simp [lensM]
  | z :: xs, i + 1 => by
    rw [List.take_succ_cons, List.drop_succ_cons, lens_cons, lens_cons, ← lens_split l xs i]
    omega
theorem pairs_len (l : α → List β) (f : α → β → Int) : ∀ (xs : List α), (pairsM l f xs).length = lensM l xs
  | [] => rfl
  | z :: xs => by
    rw [lens_cons, ← pairs_len l f xs]
    unfold pairsM
    rw [List.flatMap_cons, List.length_append, List.length_map]
end
section
variable {ι : Type} {F : ι → Cx} {K : Fg} {B : Bs} {Γ : Gm} {O : List Own} {α : Type} {ra : Rp α} {e tg elt iter tg2 iter2 : Expr} {n : Str} {p pos gpos : Pos} {scope : Scope} {β : Type} {rb : Rp β}
variable {P : Program} {w : World} {mg : Str → Option Value} {base : Heap} {k : Nat}
/-- the inner clause, at x -/
def GxM2 {ι : Type} (F : ι → Cx) (k : Nat) (scope : Scope) (K : Fg) (B : Bs) (Γ2 : Gm) (O : List Own) (D : Addr) (ds : List Int) (tg2 iter2 elt : Expr) {β : Type} (rb : Rp β) (vs2 js2 : List Nat) (ys : List β) (f : β → Int) : Prop :=
  ∃ Γ3, WipeG Γ2 vs2 Γ3 ∧ DI (gxF F k scope) K B Γ2 (⟨D, oLst rInt, ds⟩ :: O) tg2 iter2 rb fun zs O2 => zs = ys ∧ O2 = ⟨D, oLst rInt, ds⟩ :: O ∧ ∀ gg es y, y ∈ zs → DG (gxF F k scope) K (B.push gg) Γ3 (⟨D, oLst rInt, es⟩ :: O) tg2 rb y js2 fun Γ4 => DW (gxF F k scope) K (B.push gg) Γ4 (⟨D, oLst rInt, es⟩ :: O) elt rInt fun b O3 => b = f y ∧ O3 = ⟨D, oLst rInt, es⟩ :: O
theorem d_gxMin2 [fam : Fam F P w K mg base (k + 1)] (own : List (Str × Nat)) (vs vs2 : List Nat) (P0 : Addr) (hP0 : P0 ∈ B.T) (tb : TabF F P0) (ok : ∀ i, GxOk (F i).N (F i).env.scope scope own) {Γ' : Gm} [hw : WipeG Γ vs Γ'] {js js2 : List Nat} {l : α → List β} {f : α → β → Int} {Φ : Int → List Own → Prop} (hm : mg "min" = none)
    (h : DI F K B Γ O tg iter ra fun xs O1 => O1 = O ∧ (∀ gg D ds x, x ∈ xs → DG (gxF F k scope) K (B.push gg) Γ' (⟨D, oLst rInt, ds⟩ :: O) tg ra x js fun Γ2 => GxM2 F k scope K (B.push gg) Γ2 O D ds tg2 iter2 elt rb vs2 js2 (l x) (f x)) ∧ ∃ m, minO id (pairsM l f xs) = some m ∧ Φ m O)
    (hv : own.map (·.2) = vs := by rfl) (hjs : ∀ j ∈ js, j ∈ vs := by decide) (hjs2 : ∀ j ∈ js2, j ∈ vs2 := by decide) (hvs : ∀ j ∈ vs2, j ∈ vs := by decide) (hg : ∀ i, Gl (F i) "min" := by intro _; rfl) (hs : ∀ i v, genFold iter (F i).env v = pure v := by intro _ _; rfl) (hs2 : ∀ i (s : Shared) (code : Value) x, foldedSetIterable iter2 (gxEnv (F i) scope s code) x = pure x := by intro _ _ _ _; rfl)
    (he : ∀ i, starEach [gxTwo elt tg iter tg2 iter2 scope gpos] (F i).env = (false, eval (gxTwo elt tg iter tg2 iter2 scope gpos) (F i).env) :: starEach [] (F i).env := by intro _; rfl) :
    DW F K B Γ O (.Call (.Name "min" p) [gxTwo elt tg iter tg2 iter2 scope gpos] [] pos) rInt Φ := by
  intro σ G H W Q q
  refine ⟨tGxM2 P0 (WI F tg iter) (WG (gxF F k scope) tg) (WI (gxF F k scope) tg2 iter2) (WG (gxF F k scope) tg2) (WE (gxF F k scope) elt) (own.map fun p : Str × Nat => p.2) vs2, fun i => ?_, ?_⟩
  · obtain ⟨c, tb1, tb2⟩ := tb i
    exact pe_gxMin2 (fam.rm i) (hg i) (by rw [fam.mg i]; exact hm) bt_min tb1 tb2 (ok i) (fam.nd i) (fam.cm i) (by intro j hj; rw [show (own.map fun p : Str × Nat => p.2) = vs from hv]; exact hvs j hj) (hs2 i) (WI.pi i) (fun A' s H code fp hr => WG.pg (F := gxF F k scope) (i, ⟨A', hr⟩, s, H, code, fp)) (fun A' s H code fp hr => WI.pi (F := gxF F k scope) (i, ⟨A', hr⟩, s, H, code, fp)) (fun A' s H code fp hr => WG.pg (F := gxF F k scope) (i, ⟨A', hr⟩, s, H, code, fp)) (fun A' s H code fp hr => WE.pe (F := gxF F k scope) (i, ⟨A', hr⟩, s, H, code, fp)) (hs i) (he i)
  refine h σ G H W _ fun xs J O1 G1 H1 ⟨e1, hst, m, hmin, hΦ⟩ gv W1 ee => ?_
  subst e1
  refine ⟨(W1.tab P0 hP0).1, fun H2 tb Sb hSb => ?_⟩
  have W2 := W1.tabbed hP0 tb
  rw [show (own.map fun p : Str × Nat => p.2) = vs from hv]
  have hG : ∀ {G' : Hp}, Ex G1 G' → EnvR K G' σ Γ := fun e => W.env.mono (ee.trans e)
  generalize hA : pairsM l f xs = A at hmin
  have hAl : A.length = lensM l xs := by rw [← hA, pairs_len]
  let bs : Nat → Option Int := fun i => minO id (A.take i)
  refine ⟨xs.length, lensM l xs, bs, fun i f' H => i ≤ xs.length ∧ f' = lensM l (xs.drop i) ∧ ∃ G2, Ws K (B.push G1) Γ' (⟨Sb, oLst rInt, bL (bs (lensM l xs - f'))⟩ :: O1) (wipe σ vs) G2 H, rfl, ⟨Nat.zero_le _, rfl, G1, ?_⟩, ?_⟩
  · rw [Nat.sub_self]
    exact (W2.base.env' (hw.env (hG (Ex.refl _)))).newOwn hSb (ls_rep none)
  rintro i f' H3 ⟨hi, hf', G3, W3⟩
  have hsp := lens_split l xs i
  have hown : H3 Sb = some (.lst (lsB (bs (lensM l xs - f')))) := by
    obtain ⟨o, h1, h2⟩ := Ws.ownO (p := Sb) (r := oLst rInt) (x := bL (bs (lensM l xs - f'))) (f := fun w => w :: O1) inferInstance W3
    rw [h1, ls_of h2]
  have eb : Ex G1 G3 := W3.bs G1 List.mem_cons_self
  refine ⟨by omega, hown, ?_⟩
  by_cases hlt : i < xs.length
  · refine .inr ⟨hlt, gv.go i G3 H3 hlt eb W3.sub, fun v H4 y => ?_⟩
    obtain ⟨x, G4, hx, s4, r4⟩ := gv.yld i G3 H3 v H4 hlt eb W3.sub y
    have hdrop : xs.drop i = x :: xs.drop (i + 1) := by
      obtain ⟨h1, h2⟩ := List.getElem?_eq_some_iff.mp hx
      rw [← h2]
      exact List.drop_eq_getElem_cons h1
    have hfx : f' = (l x).length + lensM l (xs.drop (i + 1)) := by rw [hf', hdrop, lens_cons]
    refine hst G1 Sb _ x (List.mem_of_getElem? hx) (wipe σ vs) G4 H4 v (W3.step s4) r4 _ fun Γ2 σ2 ⟨Γ3, hw2, q2⟩ W4 wp => ⟨(wp vs hjs).trans wipe_wipe, ?_⟩
    refine q2 σ2 G4 H4 W4 _ fun zs J2 O2 G5 H5 ⟨ez, eo, hst2⟩ gv2 W5 e5 => ?_
    subst eo
    subst ez
    have hG2 : ∀ {G' : Hp}, Ex G5 G' → EnvR K G' σ2 Γ2 := fun e => W4.env.mono (e5.trans e)
    have e15 : ∀ {G'}, Ex G5 G' → Ex G1 G' := fun e => (W5.bs G1 List.mem_cons_self).trans e
    refine ⟨(l x).length, fun j H => j ≤ (l x).length ∧ ∃ G2, Ws K ((B.push G1).push G5) Γ3 (⟨Sb, oLst rInt, bL (bs (lensM l xs - (f' - j)))⟩ :: O1) (wipe σ2 vs2) G2 H, by omega, ⟨Nat.zero_le _, G5, W5.base.env' (hw2.env (hG2 (Ex.refl _)))⟩, ?_, ?_⟩
    · rintro H6 ⟨_, G6, W6⟩
      have eb6 : Ex G5 G6 := W6.bs G5 List.mem_cons_self
      exact ⟨hlt, by omega, G6, W6.unbase.env' (hw.env (hG (e15 eb6)))⟩
    · rintro j H6 ⟨hj, G6, W6⟩
      have eb6 : Ex G5 G6 := W6.bs G5 List.mem_cons_self
      by_cases hlj : j < (l x).length
      · refine .inr ⟨hlj, gv2.go j G6 H6 hlj eb6 W6.sub, fun v2 H7 y2 => ?_⟩
        obtain ⟨b2, G7, hb2, s7, r7⟩ := gv2.yld j G6 H6 v2 H7 hlj eb6 W6.sub y2
        refine hst2 G5 _ b2 (List.mem_of_getElem? hb2) (wipe σ2 vs2) G7 H7 v2 (W6.step s7) r7 _ fun Γ4 σ3 q3 W7 wp2 => ⟨(wp2 vs2 hjs2).trans wipe_wipe, ?_⟩
        refine q3 σ3 G7 H7 W7 _ fun b O5 u G8 H8 ⟨eb8, eo8⟩ W8 e8 r8 => ?_
        subst eo8
        have e58 : Ex G5 G8 := W8.bs G5 List.mem_cons_self
        have hown8 : H8 Sb = some (.lst (lsB (bs (lensM l xs - (f' - j))))) := by
          obtain ⟨o, h1, h2⟩ := Ws.ownO (p := Sb) (r := oLst rInt) (x := bL (bs (lensM l xs - (f' - j)))) (f := fun w => w :: O1) inferInstance W8
          rw [h1, ls_of h2]
        have hget : A[lensM l xs - (f' - j)]? = some (f x b2) := by
          have := pairs_get (f := f) hx hb2
          rw [hA] at this
          rw [show lensM l xs - (f' - j) = lensM l (xs.take i) + j by omega]
          exact this
        have hnext : bs (lensM l xs - (f' - j) + 1) = some (mnV (bs (lensM l xs - (f' - j))) b) := by
          obtain ⟨h1, h2⟩ := List.getElem?_eq_some_iff.mp hget
          show minO id (A.take (_ + 1)) = _
          rw [List.take_succ_eq_append_getElem h1, h2, eb8]
          unfold minO
          rw [List.foldl_append]
          rfl
        refine ⟨b, r8, hown8, hnext, hlj, G8, ?_⟩
        rw [show lensM l xs - (f' - (j + 1)) = lensM l xs - (f' - j) + 1 by omega]
        exact (W8.env' (hw2.env (hG2 e58))).mutO (r := oLst rInt) (x := bL (bs (lensM l xs - (f' - j)))) (r' := oLst rInt) (f := fun w => w :: O1) (ls_rep _)
      · obtain rfl : j = (l x).length := by omega
        exact .inl ⟨rfl, gv2.stop G6 H6 eb6 W6.sub⟩
  · obtain rfl : i = xs.length := by omega
    have hf0 : f' = 0 := by
      rw [hf', List.drop_length]
      rfl
    have eAll : bs (lensM l xs) = minO id A := by
      show minO id (A.take _) = _
      rw [← hAl, List.take_length]
    refine .inl ⟨rfl, gv.stop G3 H3 eb W3.sub, hf0, m, by rw [eAll]; exact hmin, ?_⟩
    have W6 := (W3.mutO (p := Sb) (r := oLst rInt) (x := bL (bs (lensM l xs - f'))) (r' := oLst rInt) (x' := bL none) (f := fun w => w :: O1) (o := .lst []) (ls_rep none)).perm (O' := O1) (fun w hw => List.mem_cons_of_mem _ hw) fun z => (List.nodup_cons.mp z).2
    exact q m O1 (.int m) G3 _ hΦ (W6.unbase.env' (hG eb)) (ee.trans eb) rfl
end
end Sk
set_option Elab.async false
set_option linter.all false
set_option maxRecDepth 100000
set_option maxHeartbeats 4100000
/-! Sk60: try: return e except C: return None. -/
namespace Sk
open PySem L2 Evl PyProof.Rows
end Sk
set_option Elab.async false
set_option linter.all false
set_option maxRecDepth 100000
set_option maxHeartbeats 4100000
/-! MP: charts, routes and paths, plainly (shared by the laws of paths). -/
namespace MP
open PySem L2 Evl Sk
abbrev Pt := Int × Int
abbrev Leg := Str × Str × Str × Int × Int
abbrev Fx := List (Key × Pt)
abbrev P3 := Int × Int × Int
/-! ### roots -/
def sqrU (n : Int) : Int := if decide (sqr n * sqr n = n) then sqr n else sqr n + 1
theorem sq_pos {x : Int} (h : x ≠ 0) : 0 < x * x := by
  rcases Int.lt_or_gt_of_ne h with z | z
  · exact Int.mul_pos_of_neg_of_neg z z
  · exact Int.mul_pos z z
theorem sq_nn (x : Int) : 0 ≤ x * x := by
  by_cases h : x = 0
  · rw [h]; decide
  · exact Int.le_of_lt (sq_pos h)
theorem sq_lt {x y : Int} (hx : 0 ≤ x) (h : x < y) : x * x < y * y := by
  have h1 := Int.mul_le_mul_of_nonneg_left (Int.le_of_lt h) hx
  have h2 := Int.mul_lt_mul_of_pos_right h (show 0 < y by omega)
  omega
theorem up_ok {n : Int} (h : 0 ≤ n) : 0 ≤ sqrU n ∧ n ≤ sqrU n * sqrU n ∧ (sqrU n = 0 ∨ (sqrU n - 1) * (sqrU n - 1) < n) := by
  obtain ⟨h1, h2, h3⟩ := sqr_ok h
  unfold sqrU
  by_cases e : sqr n * sqr n = n
  · rw [if_pos (decide_eq_true e)]
    refine ⟨h1, by omega, ?_⟩
    rcases Int.lt_or_le 0 (sqr n) with z | z
    · refine .inr ?_
      have e2 : (sqr n - 1) * (sqr n - 1) = sqr n * sqr n - sqr n - sqr n + 1 := by
        rw [Int.sub_mul, Int.mul_sub]
        omega
      omega
    · exact .inl (by omega)
  · rw [if_neg (by simpa using e)]
    refine ⟨by omega, by omega, .inr ?_⟩
    have e2 : sqr n + 1 - 1 = sqr n := by omega
    rw [e2]
    omega
/-- the least number whose square is at least n -/
theorem up_unique {n x : Int} (hn : 0 ≤ n) (h0 : 0 ≤ x) (h1 : n ≤ x * x) (h2 : x = 0 ∨ (x - 1) * (x - 1) < n) : x = sqrU n := by
  obtain ⟨u0, u1, u2⟩ := up_ok hn
  rcases Int.lt_trichotomy x (sqrU n) with z | z | z
  · exfalso
    rcases u2 with w | w
    · omega
    · have h3 : x * x ≤ (sqrU n - 1) * (sqrU n - 1) := by
        rcases Int.lt_or_le x (sqrU n - 1) with y | y
        · exact Int.le_of_lt (sq_lt h0 y)
        · have : x = sqrU n - 1 := by omega
          rw [this]
          exact Int.le_refl _
      omega
  · exact z
  · exfalso
    rcases h2 with w | w
    · omega
    · have h3 : sqrU n * sqrU n ≤ (x - 1) * (x - 1) := by
        rcases Int.lt_or_le (sqrU n) (x - 1) with y | y
        · exact Int.le_of_lt (sq_lt u0 y)
        · have : sqrU n = x - 1 := by omega
          rw [this]
          exact Int.le_refl _
      omega
theorem up_le {n y : Int} (hn : 0 ≤ n) (hy : 0 ≤ y) (h : n ≤ y * y) : sqrU n ≤ y := by
  obtain ⟨u0, u1, u2⟩ := up_ok hn
  rcases u2 with w | w
  · omega
  · rcases Int.lt_or_le y (sqrU n) with z | z
    · have h3 : y * y ≤ (sqrU n - 1) * (sqrU n - 1) := by
        rcases Int.lt_or_le y (sqrU n - 1) with x | x
        · exact Int.le_of_lt (sq_lt hy x)
        · have : y = sqrU n - 1 := by omega
          rw [this]
          exact Int.le_refl _
      omega
    · exact z
/-! ### the search by halves: low and high behind i of 24 steps -/
structure HvOk (n : Int) (i : Nat) (d : Int × Int) : Prop where
  l0 : 0 ≤ d.1
  lh : d.1 ≤ d.2
  hi : d.2 ≤ 10000000
  up : n ≤ d.2 * d.2
  dn : d.1 = 0 ∨ (d.1 - 1) * (d.1 - 1) < n
  w : (d.2 - d.1) * 2 ^ i ≤ 10000000
theorem hv_init {n : Int} (h1 : n ≤ 10000000 * 10000000) : HvOk n 0 (0, 10000000) := ⟨by decide, by decide, by decide, h1, .inl rfl, by decide⟩
theorem hv_hi {n : Int} {i : Nat} {lo hi : Int} (h : HvOk n i (lo, hi)) (hm : n ≤ (lo + hi) / 2 * ((lo + hi) / 2)) : HvOk n (i + 1) (lo, (lo + hi) / 2) := by
  obtain ⟨h1, h2, h3, h4, h5, h6⟩ := h
  dsimp only at h1 h2 h3 h4 h5 h6
  refine ⟨h1, by dsimp only; omega, by dsimp only; omega, hm, h5, ?_⟩
  dsimp only
  rw [Int.pow_succ]
  have p : (0 : Int) < 2 ^ i := Int.pow_pos (by decide)
  have e : ((lo + hi) / 2 - lo) * (2 ^ i * 2) = (((lo + hi) / 2 - lo) * 2) * 2 ^ i := by rw [Int.mul_comm (2 ^ i) 2, Int.mul_assoc]
  rw [e]
  exact Int.le_trans (Int.mul_le_mul_of_nonneg_right (show ((lo + hi) / 2 - lo) * 2 ≤ hi - lo by omega) (Int.le_of_lt p)) h6
theorem hv_lo {n : Int} {i : Nat} {lo hi : Int} (hn : 0 ≤ n) (h : HvOk n i (lo, hi)) (hm : ¬ n ≤ (lo + hi) / 2 * ((lo + hi) / 2)) : HvOk n (i + 1) ((lo + hi) / 2 + 1, hi) := by
  obtain ⟨h1, h2, h3, h4, h5, h6⟩ := h
  dsimp only at h1 h2 h3 h4 h5 h6
  have hlt : (lo + hi) / 2 < hi := by
    rcases Int.lt_or_le ((lo + hi) / 2) hi with z | z
    · exact z
    · exfalso
      have e : (lo + hi) / 2 = hi := by omega
      rw [e] at hm
      exact hm h4
  refine ⟨by dsimp only; omega, by dsimp only; omega, h3, h4, .inr ?_, ?_⟩
  · dsimp only
    rw [show (lo + hi) / 2 + 1 - 1 = (lo + hi) / 2 by omega]
    omega
  · dsimp only
    rw [Int.pow_succ]
    have p : (0 : Int) < 2 ^ i := Int.pow_pos (by decide)
    have e : (hi - ((lo + hi) / 2 + 1)) * (2 ^ i * 2) = ((hi - ((lo + hi) / 2 + 1)) * 2) * 2 ^ i := by rw [Int.mul_comm (2 ^ i) 2, Int.mul_assoc]
    rw [e]
    exact Int.le_trans (Int.mul_le_mul_of_nonneg_right (show (hi - ((lo + hi) / 2 + 1)) * 2 ≤ hi - lo by omega) (Int.le_of_lt p)) h6
theorem hv_end {n : Int} (hn : 0 ≤ n) {d : Int × Int} (h : HvOk n 24 d) : d.2 = sqrU n := by
  obtain ⟨lo, hi⟩ := d
  obtain ⟨h1, h2, h3, h4, h5, h6⟩ := h
  dsimp only at h1 h2 h3 h4 h5 h6
  have e : hi = lo := by
    have e24 : (2 : Int) ^ 24 = 16777216 := by decide
    rw [e24] at h6
    omega
  subst e
  exact up_unique hn h1 h4 h5
/-! ### points, lengths, begins -/
def pt (fx : Fx) (n : Str) : Pt := (valX fx (Sum.inr n)).getD (0, 0)
def d2 (a b : Pt) : Int := (b.1 - a.1) * (b.1 - a.1) + (b.2 - a.2) * (b.2 - a.2)
theorem d2_nn (a b : Pt) : 0 ≤ d2 a b := by
  have h1 := sq_nn (b.1 - a.1)
  have h2 := sq_nn (b.2 - a.2)
  unfold d2
  omega
def ln (fx : Fx) (s e : Str) : Int := sqrU (d2 (pt fx s) (pt fx e))
theorem ln_nn (fx : Fx) (s e : Str) : 0 ≤ ln fx s e := (up_ok (d2_nn _ _)).1
def lgb (legs : List Leg) (s e : Str) : Option Leg := legs.find? fun l => decide (l.1 = s) && decide (l.2.1 = e)
def at_ (r : List Str) (k : Nat) : Str := r.getD k Str.empty
def bg (fx : Fx) (r : List Str) : Nat → Int
  | 0 => 0
  | k + 1 => bg fx r k + ln fx (at_ r k) (at_ r (k + 1))
theorem bg_mono (fx : Fx) (r : List Str) {i j : Nat} (h : i ≤ j) : bg fx r i ≤ bg fx r j := by
  induction j with
  | zero =>
    have : i = 0 := by omega
    subst this
    exact Int.le_refl _
  | succ j ih =>
    by_cases e : i = j + 1
    · subst e
      exact Int.le_refl _
    · have := ih (by omega)
      have := ln_nn fx (at_ r j) (at_ r (j + 1))
      show bg fx r i ≤ bg fx r j + ln fx (at_ r j) (at_ r (j + 1))
      omega
theorem bg_nn (fx : Fx) (r : List Str) (i : Nat) : 0 ≤ bg fx r i := bg_mono fx r (Nat.zero_le i)
def begins (fx : Fx) (r : List Str) : List Int := (List.range r.length).map (bg fx r)
def dfl : Leg := (Str.empty, Str.empty, Str.empty, 0, 0)
def lgAt (legs : List Leg) (r : List Str) (k : Nat) : Leg := (lgb legs (at_ r k) (at_ r (k + 1))).getD dfl
def lgs (legs : List Leg) (r : List Str) : List Leg := (List.range (r.length - 1)).map (lgAt legs r)
/-- points are near -/
structure PtOk (p : Pt) : Prop where
  x0 : -1000000 ≤ p.1
  x1 : p.1 ≤ 1000000
  y0 : -1000000 ≤ p.2
  y1 : p.2 ≤ 1000000
theorem d2_le {a b : Pt} (ha : PtOk a) (hb : PtOk b) : d2 a b ≤ 10000000 * 10000000 := by
  obtain ⟨a1, a2, a3, a4⟩ := ha
  obtain ⟨b1, b2, b3, b4⟩ := hb
  have sq : ∀ x : Int, -2000000 ≤ x → x ≤ 2000000 → x * x ≤ 2000000 * 2000000 := fun x h1 h2 => by
    rcases Int.le_total 0 x with z | z
    · exact Int.mul_le_mul h2 h2 z (by decide)
    · have := Int.mul_le_mul (show -x ≤ 2000000 by omega) (show -x ≤ 2000000 by omega) (by omega) (by decide)
      rw [Int.neg_mul_neg] at this
      exact this
  have h1 := sq (b.1 - a.1) (by omega) (by omega)
  have h2 := sq (b.2 - a.2) (by omega) (by omega)
  unfold d2
  omega
theorem ln_le {fx : Fx} {s e : Str} (h1 : PtOk (pt fx s)) (h2 : PtOk (pt fx e)) : ln fx s e ≤ 10000000 := up_le (d2_nn _ _) (by decide) (d2_le h1 h2)
theorem bg_le {fx : Fx} {r : List Str} (h : ∀ n ∈ r, PtOk (pt fx n)) : ∀ {k : Nat}, k < r.length → bg fx r k ≤ (k : Int) * 10000000
  | 0, _ => by show (0 : Int) ≤ _; omega
  | k + 1, hk => by
    have h1 := bg_le h (k := k) (by omega)
    have m : ∀ j, j < r.length → at_ r j ∈ r := fun j hj => by
      unfold at_
      rw [List.getD_eq_getElem?_getD, List.getElem?_eq_getElem hj]
      exact List.getElem_mem hj
    have h2 := ln_le (h _ (m k (by omega))) (h _ (m (k + 1) hk))
    show bg fx r k + ln fx (at_ r k) (at_ r (k + 1)) ≤ _
    omega
/-! ### the leg of a progress -/
/-- the least index k with k + 1 = m or p < begin (k + 1) -/
structure LaOk (b : Nat → Int) (m : Nat) (p : Int) (k : Nat) : Prop where
  lt : k < m
  le : ∀ j, 1 ≤ j → j ≤ k → b j ≤ p
  en : k + 1 = m ∨ p < b (k + 1)
theorem la_unique {b : Nat → Int} (hb : ∀ i j, i ≤ j → b i ≤ b j) {m : Nat} {p : Int} {k l : Nat} (h1 : LaOk b m p k) (h2 : LaOk b m p l) : k = l := by
  rcases Nat.lt_trichotomy k l with z | z | z
  · exfalso
    rcases h1.en with e | e
    · have := h2.lt
      omega
    · have := h2.le (k + 1) (by omega) (by omega)
      omega
  · exact z
  · exfalso
    rcases h2.en with e | e
    · have := h1.lt
      omega
    · have := h1.le (l + 1) (by omega) (by omega)
      omega
end MP
set_option Elab.async false
set_option linter.all false
set_option maxRecDepth 100000
set_option maxHeartbeats 4100000
namespace Law
open PySem L2 Evl Sk
def top (i : Nat) : Stmt := PySem.Challenge.pw_skyapart_k25_clashes_of_offers.main.body.getD i (.Pass ⟨0, 0, 0, 0⟩)
abbrev s_root_down : Stmt := top 2
abbrev s_root_up : Stmt := top 3
abbrev s_common : Stmt := top 5
abbrev s_cross : Stmt := top 6
abbrev s_dot : Stmt := top 7
abbrev s_point_square : Stmt := top 8
abbrev s_sign : Stmt := top 9
abbrev s_crosses : Stmt := top 10
abbrev s_squares : Stmt := top 11
abbrev s_distance_down : Stmt := top 12
abbrev s_leg_between : Stmt := top 14
abbrev s_leg_length : Stmt := top 15
abbrev s_window : Stmt := top 17
abbrev s_apart : Stmt := top 19
abbrev s_are_above : Stmt := top 21
abbrev s_box_at : Stmt := top 22
abbrev s_common_ticks : Stmt := top 23
abbrev s_occupies : Stmt := top 25
abbrev s_fastest : Stmt := top 27
abbrev s_gap_between : Stmt := top 28
abbrev s_quiet_ticks : Stmt := top 29
abbrev s_probe : Stmt := top 30
abbrev s_landing_of : Stmt := top 32
abbrev s_wake_clash : Stmt := top 33
abbrev s_clash : Stmt := top 34
abbrev s_start : Stmt := top 38
abbrev s_draw : Stmt := top 39
abbrev s_pick : Stmt := top 40
abbrev s_is : Stmt := top 42
abbrev s_law_root_up : Stmt := top 43
abbrev s_law_cross : Stmt := top 44
abbrev s_law_dot : Stmt := top 45
abbrev s_point_closer : Stmt := top 46
abbrev s_closer : Stmt := top 47
abbrev s_names : Stmt := top 48
abbrev s_legs : Stmt := top 49
abbrev s_chart : Stmt := top 50
abbrev s_leg : Stmt := top 51
abbrev s_lengths : Stmt := top 52
abbrev s_walk : Stmt := top 54
abbrev s_begins : Stmt := top 55
abbrev s_leg_at : Stmt := top 56
abbrev s_place_on : Stmt := top 57
abbrev s_piece : Stmt := top 58
abbrev s_kind : Stmt := top 59
abbrev s_rules : Stmt := top 60
abbrev s_winds : Stmt := top 61
abbrev s_wind_at : Stmt := top 62
abbrev s_bounds : Stmt := top 63
abbrev s_target : Stmt := top 64
abbrev s_towards : Stmt := top 65
abbrev s_small_chart : Stmt := top 66
abbrev s_law_next : Stmt := top 68
abbrev s_code : Stmt := top 69
abbrev s_tube : Stmt := top 70
abbrev s_separated : Stmt := top 71
abbrev s_law_window : Stmt := top 72
abbrev s_near : Stmt := top 73
abbrev s_wake : Stmt := top 74
abbrev s_law_clash : Stmt := top 75
abbrev s_law_occupies : Stmt := top 76
abbrev s_made : Stmt := top 77
abbrev s_offer : Stmt := top 78
abbrev s_drawn : Stmt := top 79
abbrev s_law : Stmt := top 80
def clsB : Stmt → List Stmt
  | .ClassDef (body := b) .. => b
  | _ => []
abbrev s_Path_init : Stmt := (clsB (top 36)).getD 0 (.Pass ⟨0, 0, 0, 0⟩)
abbrev s_Path_route : Stmt := (clsB (top 36)).getD 1 (.Pass ⟨0, 0, 0, 0⟩)
abbrev s_Path_total : Stmt := (clsB (top 36)).getD 2 (.Pass ⟨0, 0, 0, 0⟩)
abbrev s_Path_begin : Stmt := (clsB (top 36)).getD 3 (.Pass ⟨0, 0, 0, 0⟩)
abbrev s_Path_legs : Stmt := (clsB (top 36)).getD 4 (.Pass ⟨0, 0, 0, 0⟩)
abbrev s_Path_leg : Stmt := (clsB (top 36)).getD 5 (.Pass ⟨0, 0, 0, 0⟩)
abbrev s_Path_leg_at : Stmt := (clsB (top 36)).getD 6 (.Pass ⟨0, 0, 0, 0⟩)
abbrev s_Path_start : Stmt := (clsB (top 36)).getD 7 (.Pass ⟨0, 0, 0, 0⟩)
abbrev s_Path_vector : Stmt := (clsB (top 36)).getD 8 (.Pass ⟨0, 0, 0, 0⟩)
abbrev s_Path_on_leg : Stmt := (clsB (top 36)).getD 9 (.Pass ⟨0, 0, 0, 0⟩)
abbrev s_Path_place : Stmt := (clsB (top 36)).getD 10 (.Pass ⟨0, 0, 0, 0⟩)
abbrev s_Path_piece : Stmt := (clsB (top 36)).getD 11 (.Pass ⟨0, 0, 0, 0⟩)
abbrev ns_Path : List Str := ["_route", "_legs", "_points", "_begins"]
structure Nm (K : PySem.W.Frag) (mg : Str → Option Value) where
  root_down : Df K mg "root_down" s_root_down ["n"]
  root_up : Df K mg "root_up" s_root_up ["n"]
  common : Df K mg "common" s_common ["first", "second"]
  cross : Df K mg "cross" s_cross ["origin", "first", "second"]
  dot : Df K mg "dot" s_dot ["origin", "first", "second"]
  point_square : Df K mg "point_square" s_point_square ["point", "start", "end"]
  sign : Df K mg "sign" s_sign ["number"]
  crosses : Df K mg "crosses" s_crosses ["start", "end", "other_start", "other_end"]
  squares : Df K mg "squares" s_squares ["ends"]
  distance_down : Df K mg "distance_down" s_distance_down ["first", "second"]
  leg_between : Df K mg "leg_between" s_leg_between ["chart", "start", "end"]
  leg_length : Df K mg "leg_length" s_leg_length ["chart", "start", "end"]
  window : Df K mg "window" s_window ["path", "tick", "boxes"]
  apart : Df K mg "apart" s_apart ["gaps", "first", "second"]
  are_above : Df K mg "are_above" s_are_above ["rules", "box", "other_box"]
  box_at : Df K mg "box_at" s_box_at ["track", "tick"]
  common_ticks : Df K mg "common_ticks" s_common_ticks ["one", "other"]
  occupies : Df K mg "occupies" s_occupies ["offer", "sector", "tick"]
  fastest : Df K mg "fastest" s_fastest ["boxes"]
  gap_between : Df K mg "gap_between" s_gap_between ["path", "box", "other_path", "other_box"]
  quiet_ticks : Df K mg "quiet_ticks" s_quiet_ticks ["rules", "one", "other", "tick", "speed"]
  probe : Df K mg "probe" s_probe ["rules", "one", "other"]
  landing_of : Df K mg "landing_of" s_landing_of ["offer"]
  wake_clash : Df K mg "wake_clash" s_wake_clash ["rules", "one", "other"]
  clash : Df K mg "clash" s_clash ["rules", "one", "other"]
  start : Df K mg "_law_start" s_start ["_law_script"]
  draw : Df K mg "_law_draw" s_draw ["_law_state", "_law_bound"]
  pick : Df K mg "_law_pick" s_pick ["_law_state", "_law_things"]
  is : Df K mg "_law_is" s_is ["_law_actual", "_law_due"]
  law_root_up : Df K mg "_law_root_up" s_law_root_up ["_law_n"]
  law_cross : Df K mg "_law_cross" s_law_cross ["_law_o", "_law_a", "_law_b"]
  law_dot : Df K mg "_law_dot" s_law_dot ["_law_o", "_law_a", "_law_b"]
  point_closer : Df K mg "_law_point_closer" s_point_closer ["_law_p", "_law_a", "_law_b", "_law_square"]
  closer : Df K mg "_law_closer" s_closer ["_law_first", "_law_second", "_law_limit"]
  names : Df K mg "_law_names" s_names ["_law_state", "_law_many"]
  legs : Df K mg "_law_legs" s_legs ["_law_state", "_law_names_here"]
  chart : Df K mg "_law_chart" s_chart ["_law_state", "_law_many", "_law_size"]
  leg : Df K mg "_law_leg" s_leg ["_law_chart_here", "_law_start_here", "_law_end"]
  lengths : Df K mg "_law_lengths" s_lengths ["_law_chart_here"]
  walk : Df K mg "_law_walk" s_walk ["_law_state", "_law_chart_here", "_law_most"]
  begins : Df K mg "_law_begins" s_begins ["_law_lengths_here", "_law_route"]
  leg_at : Df K mg "_law_leg_at" s_leg_at ["_law_begins_here", "_law_progress"]
  place_on : Df K mg "_law_place_on" s_place_on ["_law_chart_here", "_law_route", "_law_begins_here", "_law_k", "_law_progress"]
  piece : Df K mg "_law_piece" s_piece ["_law_chart_here", "_law_route", "_law_begins_here", "_law_low", "_law_high"]
  kind : Df K mg "_law_kind" s_kind ["_law_state"]
  rules : Df K mg "_law_rules" s_rules ["_law_state"]
  winds : Df K mg "_law_winds" s_winds ["_law_state"]
  wind_at : Df K mg "_law_wind_at" s_wind_at ["_law_winds_here", "_law_tick"]
  bounds : Df K mg "_law_bounds" s_bounds ["_law_chart_here", "_law_route", "_law_begins_here", "_law_k", "_law_speed", "_law_slip", "_law_wind"]
  target : Df K mg "_law_target" s_target ["_law_chart_here", "_law_route", "_law_k", "_law_level"]
  towards : Df K mg "_law_towards" s_towards ["_law_level", "_law_goal", "_law_rate"]
  small_chart : Df K mg "_law_small_chart" s_small_chart ["_law_state"]
  law_next : Df K mg "_law_next" s_law_next ["_law_chart_here", "_law_route", "_law_begins_here", "_law_course_here", "_law_kind_here", "_law_rules_here", "_law_winds_here", "_law_tick", "_law_box"]
  code : Df K mg "_law_code" s_code ["_law_chart_here", "_law_route", "_law_begins_here", "_law_course_here", "_law_rules_here", "_law_winds_here", "_law_tick", "_law_box", "_law_many"]
  tube : Df K mg "_law_tube" s_tube ["_law_chart_here", "_law_route", "_law_begins_here", "_law_course_here", "_law_kind_here", "_law_rules_here", "_law_winds_here", "_law_tick", "_law_box"]
  separated : Df K mg "_law_separated" s_separated ["_law_chart_here", "_law_rules_here", "_law_one", "_law_box", "_law_other", "_law_other_box"]
  law_window : Df K mg "_law_window" s_law_window ["_law_one", "_law_tick", "_law_boxes"]
  near : Df K mg "_law_near" s_near ["_law_chart_here", "_law_rules_here", "_law_one", "_law_other", "_law_tick"]
  wake : Df K mg "_law_wake" s_wake ["_law_chart_here", "_law_rules_here", "_law_one", "_law_other"]
  law_clash : Df K mg "_law_clash" s_law_clash ["_law_chart_here", "_law_rules_here", "_law_one", "_law_other"]
  law_occupies : Df K mg "_law_occupies" s_law_occupies ["_law_chart_here", "_law_one", "_law_sector", "_law_tick"]
  made : Df K mg "_law_made" s_made ["_law_chart_here", "_law_lengths_here", "_law_rules_here", "_law_winds_here", "_law_course_here", "_law_kind_here", "_law_tick", "_law_box"]
  offer : Df K mg "_law_offer" s_offer ["_law_chart_here", "_law_mine"]
  drawn : Df K mg "_law_drawn" s_drawn ["_law_state", "_law_chart_here", "_law_lengths_here", "_law_rules_here", "_law_winds_here", "_law_route"]
  law : Df K mg "law" s_law ["_law_script"]
  distance_downT : Tf distance_down
  gap_betweenT : Tf gap_between
  cPath : Addr
  kPath : Kl K cPath ns_Path
  iPath : Ck K mg "Path" cPath "Path.__init__" s_Path_init ["self", "chart", "route"]
  mPath_route : Md K cPath "route" "Path.route" s_Path_route ["self"]
  mPath_total : Md K cPath "total" "Path.total" s_Path_total ["self"]
  mPath_begin : Md K cPath "begin" "Path.begin" s_Path_begin ["self", "index"]
  mPath_legs : Md K cPath "legs" "Path.legs" s_Path_legs ["self"]
  mPath_leg : Md K cPath "leg" "Path.leg" s_Path_leg ["self", "index"]
  mPath_leg_at : Md K cPath "leg_at" "Path.leg_at" s_Path_leg_at ["self", "progress"]
  mPath_start : Md K cPath "start" "Path.start" s_Path_start ["self", "index"]
  mPath_vector : Md K cPath "vector" "Path.vector" s_Path_vector ["self", "index"]
  mPath_on_leg : Md K cPath "_on_leg" "Path._on_leg" s_Path_on_leg ["self", "index", "progress"]
  mPath_place : Md K cPath "place" "Path.place" s_Path_place ["self", "progress"]
  mPath_piece : Md K cPath "piece" "Path.piece" s_Path_piece ["self", "low", "high"]
abbrev tsOf {K : PySem.W.Frag} {mg : Str → Option Value} (N : Nm K mg) : List Addr := [N.distance_downT.P0, N.gap_betweenT.P0]
/-- the tables stand in the base -/
structure Tb0 {K : PySem.W.Frag} {mg : Str → Option Value} (N : Nm K mg) (base : Heap) : Prop where
  distance_down : GxR.TabB base mg N.distance_downT.c N.distance_downT.P0
  gap_between : GxR.TabB base mg N.gap_betweenT.c N.gap_betweenT.P0
/-- what is built in, the module's constants -/
structure Bt (mg : Str → Option Value) : Prop where
  min : mg "min" = none
  enumerate : mg "enumerate" = none
  max : mg "max" = none
  any : mg "any" = none
  range : mg "range" = none
  len : mg "len" = none
  sum : mg "sum" = none
  tuple : mg "tuple" = none
  isi : mg "isinstance" = none
  str : mg "str" = none
  int : mg "int" = none
  zip : mg "zip" = none
  bool : mg "bool" = none
  sorted : mg "sorted" = none
  list : mg "list" = none
  abs : mg "abs" = none
  isqrt : mg "isqrt" = some (.builtin "math.isqrt")
/-- the state of the draws -/
def stN : List Str := ["cells", "at", "left", "mix"]
theorem stN_nd : stN.Nodup := by decide +kernel
abbrev stF : RpF (List Int × Int × Int × Int) := fCons (rLst rInt) (fCons rInt (fCons rInt (fOne rInt)))
structure StGood (d : List Int × Int × Int × Int) : Prop where
  cs : ∀ z ∈ d.1, 0 ≤ z
  at_ : 0 ≤ d.2.1
  lf : 0 ≤ d.2.2.1
  m0 : 0 ≤ d.2.2.2
  m1 : d.2.2.2 < 2147483647
abbrev oSt : Ow Unit := oEx (oRec stN stF) StGood
theorem bd31 {x : Int} (h0 : 0 ≤ x) (h1 : x < 2147483647) : Bd 31 x := Bd.of (by omega) (by omega)
local macro_rules | `(tactic| walk_at "sc") => `(tactic| first | omega | assumption | (with_reducible exact mulOk) | (with_reducible exact smOk) | (with_reducible exact ⟨by decide, smOk⟩) | decide | (simp only [List.length_cons, List.length_nil]; decide) | exact divOk (by omega))
section
variable {P : Program} {w : World} {K : PySem.W.Frag} {mg : Str → Option Value} {base : Heap}
abbrev sp_start (K : Fg) : Sp := spN K [] (fOne (rSeq rInt)) (fun ns => ns.length ≤ 63) oSt fun _ _ => True
theorem sc_start : FnScope ["_law_script", "_law_cell"] ["_law_script"] (defScope s_start) := ⟨rfl, rfl, rfl, by decide +kernel, rfl, by decide +kernel, by decide +kernel⟩
theorem ok_start (N : Nm K mg) (T : Bt mg) : FnOk P w K mg base CX0 1 N.start.f N.start.fd ["_law_script"] (sp_start K) := by
  refine fn_m N.start.F sc_start [] fun cdv A outer s G H E x Q fam hp hk => ?_
  show DS _ K ⟨[], [], G, H, []⟩ [some ⟨(rSeq rInt), x⟩, none] [] (defBody s_start) _
  refine s_ret (d_disp (ns := stN) (f := stF) stN_nd (fun i => pps_cons pe_str (WE.pe i) (pps_cons pe_str (WE.pe i) (pps_cons pe_str (WE.pe i) (pps_cons pe_str (WE.pe i) pps_nil)))) fun q hq => ?_)
  refine dd_cons (d_lcP [("_law_cell", 1)] [1] (fun _ => blkOk_by (N := ["_law_script", "_law_cell"]) (sc := defScope s_start) (by decide +kernel)) (w_seq (d_var 0 ⟨rfl, Nat.le_trans hp (by decide), fun gg D ys x hx => (g_name 1 (d_callB T.abs bt_abs (da_one (d_callT T.int bt_int (da_one (d_var 1 (c_int (c_abs ⟨rfl, rfl⟩)))))))), ?_⟩)))
  refine dd_cons (d_int (dd_cons (d_int (dd_one (d_bin (d_int (d_callB T.len bt_len (da_one (d_var 0 (c_lenS (o_add ⟨_, rfl, ?_⟩)))))))))))
  refine rt_close (r := oRec stN stF) (good := StGood) ⟨?_, Int.le_refl 0, Int.le_refl 0, ?_, ?_⟩ (hk ⟨(), trivial, rfl⟩)
  · intro z hz
    obtain ⟨y, _, e⟩ := List.mem_map.mp hz
    subst e
    split <;> omega
  · dsimp only
    omega
  · have hp' : x.length ≤ 63 := hp
    dsimp only
    omega
abbrev sp_draw (K : Fg) : Sp := sp1 K [] (fCons rAdr (fOne rInt)) (fun x => 0 < x.2 ∧ Sm x.2) (fun x => ⟨x.1, oSt, ()⟩) rInt fun x y => 0 ≤ y ∧ y < x.2
theorem sc_draw : FnScope ["_law_state", "_law_bound", "_law_cell", "_law_number"] ["_law_state", "_law_bound"] (defScope s_draw) := ⟨rfl, rfl, rfl, by decide +kernel, rfl, by decide +kernel, by decide +kernel⟩
theorem ok_draw (N : Nm K mg) (T : Bt mg) : FnOk P w K mg base CX0 1 N.draw.f N.draw.fd ["_law_state", "_law_bound"] (sp_draw K) := by
  refine fn_m N.draw.F sc_draw [] fun cdv A outer s G H E x Q fam hp hk => ?_
  obtain ⟨st, b⟩ := x
  obtain ⟨hb0, hbS⟩ := hp
  dsimp only at hb0 hbS
  have hbB := hbS.bd
  refine s_open (r := oRec stN stF) (good := StGood) fun d hd => ?_
  obtain ⟨cs, at', lf, mx⟩ := d
  obtain ⟨g1, g2, g3, g4, g5⟩ := hd
  dsimp only at g1 g2 g3 g4 g5
  have bm := bd31 g4 g5
  show DS _ K ⟨[], [st], G, H, []⟩ [some ⟨rAdr, st⟩, some ⟨rInt, b⟩, none, none] [⟨st, oRec stN stF, (cs, at', lf, mx)⟩] (defBody s_draw) _
  refine s_ifJ (fun d : List Int × Int × Int × Int => StGood d) (fun _ => [some ⟨rAdr, st⟩, some ⟨rInt, b⟩, none, none]) (fun d => [⟨st, oRec stN stF, d⟩]) (dt_bool (dp_andP (dt_cmp (d_recV 0 2 rfl stN_nd (d_int (o_eqI ⟨rfl, rfl⟩)))) (fun hb => (dp_and1 (dt_cmp (d_recV 0 1 rfl stN_nd (d_callB T.len bt_len (da_one (d_recV 0 0 rfl stN_nd (c_lenL (o_lt ⟨rfl, rfl⟩)))))))))))
    (fun hb => ?_) (fun hb => ?_) (fun d hd => ?_)
  · -- then
    simp only [Bool.and_eq_true, decide_eq_true_eq] at hb
    obtain ⟨c, hc1, hc2, _⟩ := atI_lt g2 hb.2
    have hc0 := g1 c hc2
    refine s_set 2 (d_ix (d_recV 0 0 rfl stN_nd (d_recV 0 1 rfl stN_nd (i_lst hc1 ?_))))
    refine s_recPutV 0 1 rfl stN_nd (d_bin (d_recV 0 1 rfl stN_nd (d_int (o_add ⟨rfl, ?_⟩))))
    refine s_recPutV 0 3 rfl stN_nd (d_bin (d_callT T.int bt_int (da_one (d_bin (d_bin (d_bin (d_recV 0 3 rfl stN_nd (d_int (o_mul (by walk_at "sc") (d_var 2 (o_add (d_int (o_add (c_int (d_int (o_mod (by walk_at "sc") ⟨rfl, ?_⟩))))))))))))))))
    obtain ⟨q0, q1⟩ := mod_rng (mx * 48271 + c + 11) (show (0 : Int) < 2147483647 by decide)
    refine s_ifP (dt_cmp (d_var 2 (d_bin (d_int (d_int (o_pow (by decide) (o_lt ⟨rfl, rfl⟩))))))) (fun hb => ?_) (fun hb => ?_)
    · refine s_ret (d_bin (d_callT T.int bt_int (da_one (d_var 2 (c_int (d_var 1 (o_mod (by walk_at "sc") ?_)))))))
      exact rt_close (r := oRec stN stF) (good := StGood) ⟨g1, by dsimp only; omega, g3, q0, q1⟩ (hk ⟨rfl, mod_rng _ hb0⟩)
    · refine s_out (s_recPutV 0 2 rfl stN_nd (d_var 2 ⟨rfl, ?_⟩))
      exact s_join (cs, at' + 1, c, (mx * 48271 + c + 11) % 2147483647) ⟨g1, by dsimp only; omega, hc0, q0, q1⟩ ⟨rfl, rfl, trivial⟩ rfl
  · exact s_join (cs, at', lf, mx) ⟨g1, g2, g3, g4, g5⟩ ⟨rfl, rfl, trivial⟩ rfl
  · obtain ⟨cs, at', lf, mx⟩ := d
    obtain ⟨g1, g2, g3, g4, g5⟩ := hd
    dsimp only at g1 g2 g3 g4 g5
    have bm := bd31 g4 g5
    refine s_ifP (dt_cmp (d_recV 0 2 rfl stN_nd (d_int (o_gt ⟨rfl, rfl⟩)))) (fun hb => ?_) (fun hb => ?_)
    · refine s_set 3 (d_bin (d_callT T.int bt_int (da_one (d_recV 0 2 rfl stN_nd (c_int (d_var 1 (o_mod (by walk_at "sc") ?_)))))))
      refine s_recPutV 0 2 rfl stN_nd (d_bin (d_recV 0 2 rfl stN_nd (d_var 1 (o_div (divOk hb0) ⟨rfl, ?_⟩))))
      refine s_ret (d_var 3 ?_)
      exact rt_close (r := oRec stN stF) (good := StGood) ⟨g1, g2, Int.ediv_nonneg g3 (by omega), g4, g5⟩ (hk ⟨rfl, mod_rng _ hb0⟩)
    · refine s_out (s_recPutV 0 3 rfl stN_nd (d_bin (d_callT T.int bt_int (da_one (d_bin (d_bin (d_recV 0 3 rfl stN_nd (d_int (o_mul (by walk_at "sc") (d_int (o_add (c_int (d_int (o_mod (by walk_at "sc") ⟨rfl, ?_⟩))))))))))))))
      obtain ⟨q0, q1⟩ := mod_rng (mx * 48271 + 11) (show (0 : Int) < 2147483647 by decide)
      have bm3 := bd31 q0 q1
      refine s_ret (d_bin (d_callT T.int bt_int (da_one (d_bin (d_callT T.int bt_int (da_one (d_bin (d_bin (d_recV 0 3 rfl stN_nd (d_int (o_mul (by walk_at "sc") (d_int (o_add (c_int (d_int (o_mod (by walk_at "sc") (c_int (d_var 1 (o_mod (by walk_at "sc") ?_)))))))))))))))))))
      exact rt_close (r := oRec stN stF) (good := StGood) ⟨g1, g2, g3, q0, q1⟩ (hk ⟨rfl, mod_rng _ hb0⟩)
abbrev sp_pick {α : Type} (ra : Rp α) (K : Fg) : Sp := sp1 K [] (fCons rAdr (fOne (rLst ra))) (fun x => 0 < x.2.length ∧ x.2.length ≤ sizeLine) (fun x => ⟨x.1, oSt, ()⟩) ra fun x y => y ∈ x.2
theorem sc_pick : FnScope ["_law_state", "_law_things"] ["_law_state", "_law_things"] (defScope s_pick) := ⟨rfl, rfl, rfl, by decide +kernel, rfl, by decide +kernel, by decide +kernel⟩
theorem ok_pick {α : Type} {ra : Rp α} (N : Nm K mg) (T : Bt mg) : FnOk P w K mg base CX0 2 N.pick.f N.pick.fd ["_law_state", "_law_things"] (sp_pick ra K) := by
  refine fn_m N.pick.F sc_pick [] fun cdv A outer s G H E x Q fam hp hk => ?_
  obtain ⟨st, xs⟩ := x
  obtain ⟨h0, h1⟩ := hp
  dsimp only at h0 h1
  have hB := bd_len h1
  show DS _ K ⟨[], [st], G, H, []⟩ [some ⟨rAdr, st⟩, some ⟨(rLst ra), xs⟩] [⟨st, oSt, ()⟩] (defBody s_pick) _
  refine s_ret (d_ix (rc := ra) (d_var 1 (d_call N.draw (ok_draw N T) (da_cons (d_var 0 (da_one (d_callB T.len bt_len (da_one (d_var 1 (c_lenL (sw_1 (q := st) ⟨?_, smOk⟩ (fun n hn => ?_))))))))))))
  · dsimp only
    omega
  · obtain ⟨c, c1, c2, _⟩ := atI_lt (xs := xs) hn.1 hn.2
    exact i_lst c1 (hk ⟨rfl, c2⟩)
abbrev sp_is (K : Fg) : Sp := spF K [] (fCons rBool (fOne rBool)) (fun _ => True) rBool fun x => decide (x.1 = x.2)
theorem sc_is : FnScope ["_law_actual", "_law_due"] ["_law_actual", "_law_due"] (defScope s_is) := ⟨rfl, rfl, rfl, by decide +kernel, rfl, by decide +kernel, by decide +kernel⟩
theorem ok_is (N : Nm K mg) (T : Bt mg) : FnOk P w K mg base CX0 1 N.is.f N.is.fd ["_law_actual", "_law_due"] (sp_is K) := by
  refine fn_m N.is.F sc_is [] fun cdv A outer s G H E x Q fam hp hk => ?_
  show DS _ K ⟨[], _, G, H, []⟩ [some ⟨rBool, x.1⟩, some ⟨rBool, x.2⟩] _ (defBody s_is) _
  refine s_ret (d_then (d_andP (d_callB T.isi bt_isi (da_cons (d_var 0 (da_one (d_cls T.bool bt_bool (c_isi (b := true) (kit_ty isi_bool_bool) ⟨rfl, rfl⟩)))))) (fun hb => (d_one (d_cmp (d_var 0 (d_var 1 (o_eqB ⟨rfl, rfl⟩))))))) ?_)
  exact hk ⟨rfl, rfl⟩
end
end Law
set_option Elab.async false
set_option linter.all false
set_option maxRecDepth 100000
set_option maxHeartbeats 4100000
/-! Ct: how the law's charts and paths stand (k09). -/
namespace Law
open PySem L2 Evl Sk MP
abbrev rPt : Rp Pt := rTup (fCons rInt (fOne rInt))
abbrev rLeg : Rp Leg := rTup (fCons rStr (fCons rStr (fCons rStr (fCons rInt (fOne rInt)))))
abbrev rP3 : Rp P3 := rTup (fCons rInt (fCons rInt (fOne rInt)))
abbrev chN5 : List Str := ["fixes", "legs", "zones", "runways", "holds"]
abbrev chN : List Str := ["fixes", "legs", "zones", "runways", "holds", "hours", "capacities"]
theorem chN_nd : chN.Nodup := by decide +kernel
theorem chN5_nd : chN5.Nodup := by decide +kernel
abbrev ChV5 := Fx × List Leg × List Int × List Str × List (Key × Str)
abbrev Hr := Str × Str × Int × Int
abbrev rHour : Rp Hr := rTup (fCons rStr (fCons rStr (fCons rInt (fOne rInt))))
abbrev ChV := (ChV5 × List Hr) × List (Key × Int)
abbrev chF5 : RpF ChV5 := fCons (rDk rPt) (fCons (rLst rLeg) (fCons (rLst rInt) (fCons (rLst rStr) (fOne (rDk rStr)))))
abbrev chF : RpF ChV := fApp (fApp chF5 (rLst rHour)) (rDk rInt)
abbrev rChart : Rp ChV := rRec chN chF
abbrev fxOf (c : ChV) : Fx := c.1.1.1
abbrev lgOf (c : ChV) : List Leg := c.1.1.2.1
abbrev hrOf (c : ChV) : List Hr := c.1.2
/-- a chart of one's own: its legs, its hours too -/
abbrev ChO5 := Fx × Addr × List Int × List Str × List (Key × Str)
abbrev ChO := (ChO5 × Addr) × List (Key × Int)
abbrev chFO5 : RpF ChO5 := fCons (rDk rPt) (fCons rAdr (fCons (rLst rInt) (fCons (rLst rStr) (fOne (rDk rStr)))))
abbrev chFO : RpF ChO := fApp (fApp chFO5 rAdr) (rDk rInt)
abbrev chO (c : ChV) (ql qh : Addr) : ChO := ((((fxOf c), ql, c.1.1.2.2), qh), c.2)
theorem ns_Path_nd : ns_Path.Nodup := by decide +kernel
abbrev PathV := (((Unit × List Str) × List Leg) × List Pt) × List Int
abbrev pF : RpF PathV := fApp (fApp (fApp (fApp fNil (rTpv rStr)) (rLst rLeg)) (rLst rPt)) (rLst rInt)
abbrev mkP (ch : ChV) (r : List Str) : PathV := (((((), r), lgs (lgOf ch) r), r.map (pt (fxOf ch))), begins (fxOf ch) r)
/-- a path of a route on a chart -/
def rPath (C : Addr) : Rp (ChV × List Str) := ⟨fun K G v x => (rIns C ns_Path pF).rep K G v (mkP x.1 x.2), fun e h => (rIns C ns_Path pF).mono e h⟩
instance insPath {O : List Own} {C : Addr} {x : ChV × List Str} : InsR O (rPath C) x C ns_Path pF (mkP x.1 x.2) := ⟨fun {K B Γ σ G H v} W h => InsR.get (O := O) (ra := rIns C ns_Path pF) (x := mkP x.1 x.2) W h⟩
instance {C : Addr} : NotNon (rPath C) := ⟨fun ⟨a, _, _, h, _⟩ z => by rw [h] at z; cases z⟩
/-- a route of the chart -/
structure RtV (ch : ChV) (r : List Str) : Prop where
  two : 2 ≤ r.length
  len : r.length ≤ 1000
  fx : ∀ n ∈ r, ∃ p, valX (fxOf ch) (Sum.inr n) = some p ∧ PtOk p
  lg : ∀ k, k + 1 < r.length → ∃ l, lgb (lgOf ch) (at_ r k) (at_ r (k + 1)) = some l
end Law
set_option Elab.async false
set_option linter.all false
set_option maxRecDepth 100000
set_option maxHeartbeats 4100000
/-! PathA: roots, legs, the making of a path (shared by the laws of paths). -/
namespace Law
open PySem L2 Evl Sk MP
local macro_rules | `(tactic| walk_at "sc") => `(tactic| first | omega | assumption | (with_reducible exact mulOk) | (with_reducible exact smOk) | (with_reducible exact ⟨by decide, smOk⟩) | decide | (simp only [List.length_cons, List.length_nil]; decide) | exact divOk (by omega))
section
variable {P : Program} {w : World} {K : PySem.W.Frag} {mg : Str → Option Value} {base : Heap}
theorem sqr_bd {n : Int} (h : 0 ≤ n) [hb : Bd 210 n] : Bd 210 (sqr n) := ⟨by
  obtain ⟨h1, h2, _⟩ := sqr_ok h
  have h3 := hb.lt
  have h4 : sqr n ≤ n := by
    rcases Int.lt_or_le (sqr n) 1 with z | z
    · omega
    · have := Int.mul_le_mul_of_nonneg_left z h1
      omega
  omega⟩
abbrev sp_root_up (K : Fg) : Sp := spF K [] (fOne rInt) (fun n => 0 ≤ n ∧ Bd 210 n) rInt sqrU
theorem sc_root_up : FnScope ["n", "root"] ["n"] (defScope s_root_up) := ⟨rfl, rfl, rfl, by decide +kernel, rfl, by decide +kernel, by decide +kernel⟩
theorem ok_root_up (N : Nm K mg) (T : Bt mg) : FnOk P w K mg base CX0 1 N.root_up.f N.root_up.fd ["n"] (sp_root_up K) := by
  refine fn_m N.root_up.F sc_root_up [] fun cdv A outer s G H E x Q fam hp hk => ?_
  obtain ⟨h0, hb⟩ := hp
  have hr := sqr_bd h0
  show DS _ K ⟨[], _, G, H, []⟩ [some ⟨rInt, x⟩, none] _ (defBody s_root_up) _
  refine s_set 1 (d_callG T.isqrt (da_one (d_var 0 (c_sqrt h0 ?_))))
  refine s_ret (d_iteP (dt_cmp (d_bin (d_var 1 (d_var 1 (o_mul (by walk_at "sc") (d_var 0 (o_eqI ⟨rfl, rfl⟩))))))) (fun hb => (d_var 1 (hk ⟨rfl, ?_⟩))) (fun hb => (d_bin (d_var 1 (d_int (o_add (hk ⟨rfl, ?_⟩)))))))
  · show sqr x = sqrU x
    unfold sqrU
    rw [if_pos hb]
  · show sqr x + 1 = sqrU x
    unfold sqrU
    rw [hb]
    rfl
abbrev sp_leg_between (K : Fg) : Sp := spF K [] (fCons rChart (fCons rStr (fOne rStr))) (fun x => ∃ l, lgb (lgOf x.1) x.2.1 x.2.2 = some l) rLeg fun x => (lgb (lgOf x.1) x.2.1 x.2.2).getD dfl
theorem sc_leg_between : FnScope ["chart", "start", "end", "leg"] ["chart", "start", "end"] (defScope s_leg_between) := ⟨rfl, rfl, rfl, by decide +kernel, rfl, by decide +kernel, by decide +kernel⟩
theorem ok_leg_between (N : Nm K mg) (T : Bt mg) : FnOk P w K mg base CX0 1 N.leg_between.f N.leg_between.fd ["chart", "start", "end"] (sp_leg_between K) := by
  refine fn_m N.leg_between.F sc_leg_between [] fun cdv A outer s G H E x Q fam hp hk => ?_
  obtain ⟨ch, sn, en⟩ := x
  obtain ⟨l0, hl0⟩ := hp
  dsimp only at hl0
  show DS _ K ⟨[], _, G, H, []⟩ [some ⟨rChart, ch⟩, some ⟨rStr, sn⟩, some ⟨rStr, en⟩, none] _ (defBody s_leg_between) _
  refine s_for (js := [3]) (w_lst (ra := rLeg) (d_recP 0 1 rfl chN_nd ?_))
  refine ⟨Unit, fun i _ => ((lgOf ch).take i).find? (fun l => decide (l.1 = sn) && decide (l.2.1 = en)) = none, fun _ => [some ⟨rChart, ch⟩, some ⟨rStr, sn⟩, some ⟨rStr, en⟩, none], fun _ => [], ⟨(), rfl, ⟨rfl, rfl, rfl, trivial⟩, rfl⟩, fun g i x d hx hd => (g_name 3 ?_), fun d hd => ?_⟩
  · refine s_ifP (dt_bool (dp_andP (dt_cmp (d_ix (d_var 3 (d_int (i_tup 0 (d_var 1 (o_eqS ⟨rfl, rfl⟩))))))) (fun hb => (dp_and1 (dt_cmp (d_ix (d_var 3 (d_int (i_tup 1 (d_var 2 (o_eqS ⟨rfl, rfl⟩))))))))))) (fun hb => ?_) (fun hb => ?_)
    · refine s_ret (d_var 3 (rt_in (hk ⟨rfl, ?_⟩)))
      show x = (lgb (lgOf ch) sn en).getD dfl
      unfold lgb
      rw [find_at hd hx hb]
      rfl
    · exact s_out (s_next () (find_no hd hx hb) ⟨rfl, rfl, rfl, trivial⟩ rfl)
  · exfalso
    have hd' : ((lgOf ch).take (lgOf ch).length).find? (fun l => decide (l.1 = sn) && decide (l.2.1 = en)) = none := hd
    rw [List.take_length] at hd'
    unfold lgb at hl0
    rw [hd'] at hl0
    cases hl0
abbrev sp_leg_length (K : Fg) : Sp := spF K [] (fCons rChart (fCons rStr (fOne rStr))) (fun x => (∃ p, valX (fxOf x.1) (Sum.inr x.2.1) = some p ∧ PtOk p) ∧ ∃ p, valX (fxOf x.1) (Sum.inr x.2.2) = some p ∧ PtOk p) rInt fun x => ln (fxOf x.1) x.2.1 x.2.2
theorem sc_leg_length : FnScope ["chart", "start", "end", "ax", "ay", "bx", "by"] ["chart", "start", "end"] (defScope s_leg_length) := ⟨rfl, rfl, rfl, by decide +kernel, rfl, by decide +kernel, by decide +kernel⟩
theorem pt_of {fx : Fx} {n : Str} {p : Pt} (h : valX fx (Sum.inr n) = some p) : pt fx n = p := by
  unfold pt
  rw [h]
  rfl
theorem ok_leg_length (N : Nm K mg) (T : Bt mg) : FnOk P w K mg base CX0 2 N.leg_length.f N.leg_length.fd ["chart", "start", "end"] (sp_leg_length K) := by
  refine fn_m N.leg_length.F sc_leg_length [] fun cdv A outer s G H E x Q fam hp hk => ?_
  obtain ⟨ch, sn, en⟩ := x
  obtain ⟨⟨p, hp1, op⟩, ⟨q, hq1, oq⟩⟩ := hp
  dsimp only at hp1 hq1
  have hd2 := d2_le op oq
  have hd0 := d2_nn p q
  have b1 : Bd 30 (q.1 - p.1) := Bd.of (by have := op.x1; have := oq.x0; omega) (by have := op.x0; have := oq.x1; omega)
  have b2 : Bd 30 (q.2 - p.2) := Bd.of (by have := op.y1; have := oq.y0; omega) (by have := op.y0; have := oq.y1; omega)
  have b3 : Bd 210 (d2 p q) := Bd.of (by omega) (by omega)
  show DS _ K ⟨[], _, G, H, []⟩ [some ⟨rChart, ch⟩, some ⟨rStr, sn⟩, some ⟨rStr, en⟩, none, none, none, none] _ (defBody s_leg_length) _
  refine s_asg (js := [3, 4]) (ra := rPt) (d_dk (d_recP 0 0 rfl chN_nd (d_keyS (d_var 1 ⟨_, p, inferInstance, hp1, g_tup (gs_cons (g_name 3 (gs_one (g_name 4 ?_))))⟩))))
  refine s_asg (js := [5, 6]) (ra := rPt) (d_dk (d_recP 0 0 rfl chN_nd (d_keyS (d_var 2 ⟨_, q, inferInstance, hq1, g_tup (gs_cons (g_name 5 (gs_one (g_name 6 ?_))))⟩))))
  refine s_ret (d_call N.root_up (ok_root_up N T) (da_one (d_bin (d_bin (d_bin (d_var 5 (d_var 3 (o_sub (d_bin (d_var 5 (d_var 3 (o_sub (o_mul (by walk_at "sc") (d_bin (d_bin (d_var 6 (d_var 4 (o_sub (d_bin (d_var 6 (d_var 4 (o_sub (o_mul (by walk_at "sc") (o_add (sw_f ⟨hd0, b3⟩ (hk ⟨rfl, ?_⟩))))))))))))))))))))))))))
  show sqrU (d2 p q) = ln (fxOf ch) sn en
  unfold ln
  rw [pt_of hp1, pt_of hq1]
end
end Law
set_option Elab.async false
set_option linter.all false
set_option maxRecDepth 100000
set_option maxHeartbeats 4100000
/-! PathB: a path is made (shared by the laws of paths). -/
namespace Law
open PySem L2 Evl Sk MP
local macro_rules | `(tactic| walk_at "sc") => `(tactic| first | omega | assumption | (with_reducible exact mulOk) | (with_reducible exact smOk) | (with_reducible exact ⟨by decide, smOk⟩) | decide | (simp only [List.length_cons, List.length_nil]; decide) | exact divOk (by omega))
theorem at_get {r : List Str} {k : Nat} (h : k < r.length) : r[k]? = some (at_ r k) := by
  unfold at_
  rw [List.getD_eq_getElem?_getD, List.getElem?_eq_getElem h]
  rfl
theorem at_mem {r : List Str} {k : Nat} (h : k < r.length) : at_ r k ∈ r := List.mem_of_getElem? (at_get h)
theorem cut_from {α : Type} (xs : List α) (k : Nat) (h : k ≤ xs.length) : cutL xs (some (k : Int)) none = xs.drop k := by
  unfold cutL
  have e1 : HT.sIx xs.length 0 (some (k : Int)) = k := by
    show (if (k : Int) < 0 then ((k : Int) + (xs.length : Int)).toNat else min (k : Int).toNat xs.length) = _
    rw [if_neg (by omega)]
    omega
  rw [e1]
  show (xs.drop k).take (xs.length - k) = _
  rw [← List.length_drop, List.take_length]
theorem pairs_get {r : List Str} {i : Nat} {x : Str × Str} (h : (r.zip (r.drop 1))[i]? = some x) : i + 1 < r.length ∧ x = (at_ r i, at_ r (i + 1)) := by
  obtain ⟨h1, h2⟩ := List.getElem?_zip_eq_some.mp (show (r.zip (r.drop 1))[i]? = some (x.1, x.2) from h)
  rw [List.getElem?_drop] at h2
  have hl : 1 + i < r.length := (List.getElem?_eq_some_iff.mp h2).1
  have hi : i + 1 < r.length := by omega
  rw [at_get (by omega)] at h1
  rw [show 1 + i = i + 1 by omega, at_get hi] at h2
  exact ⟨hi, Prod.ext (Option.some.inj h1).symm (Option.some.inj h2).symm⟩
theorem range_map_get {α : Type} {f : Nat → α} {n i : Nat} (h : i < n) : ((List.range n).map f)[i]? = some (f i) := by
  rw [List.getElem?_map, List.getElem?_range h]
  rfl
section
variable {P : Program} {w : World} {K : PySem.W.Frag} {mg : Str → Option Value} {base : Heap}
abbrev sp_Path_init (C : Addr) (K : Fg) : Sp := spM K [] (fCons rAdr (fCons rChart (fOne (rTpv rStr)))) (fun x => RtV x.2.1 x.2.2) (fun x => [⟨x.1, oNew C, ()⟩]) rNon fun x _ O' => O' = [⟨x.1, oIns C ns_Path pF, mkP x.2.1 x.2.2⟩]
abbrev N_Path_init : List Str := ["self", "chart", "route", "start", "end", "name"]
theorem sc_Path_init : FnScope N_Path_init ["self", "chart", "route"] (defScope s_Path_init) := ⟨rfl, rfl, rfl, by decide +kernel, rfl, by decide +kernel, by decide +kernel⟩
abbrev nsA : List Str := ["_route"]
abbrev nsB : List Str := ["_route", "_legs"]
abbrev nsC : List Str := ["_route", "_legs", "_points"]
abbrev pF4 : RpF ((((Unit × List Str) × Addr) × List Pt) × Addr) := fApp (fApp (fApp (fApp fNil (rTpv rStr)) rAdr) (rLst rPt)) rAdr
abbrev pF3 : RpF ((((Unit × List Str) × Addr) × List Pt) × List Int) := fApp (fApp (fApp (fApp fNil (rTpv rStr)) rAdr) (rLst rPt)) (rLst rInt)
theorem ok_Path_init (N : Nm K mg) (T : Bt mg) : FnOk P w K mg base CX0 3 N.iPath.f N.iPath.fd ["self", "chart", "route"] (sp_Path_init N.cPath K) := by
  refine fn_m N.iPath.F sc_Path_init [] fun cdv A outer s G H E x Q fam hp hk => ?_
  obtain ⟨sf, ch, r⟩ := x
  obtain ⟨h2, h1000, hfx, hlg⟩ := hp
  dsimp only at h2 h1000 hfx hlg
  have hsz : r.length ≤ sizeLine := Nat.le_trans h1000 (by decide)
  show DS _ K ⟨[], _, G, H, []⟩ [some ⟨rAdr, sf⟩, some ⟨rChart, ch⟩, some ⟨(rTpv rStr), r⟩, none, none, none] [⟨sf, oNew N.cPath, ()⟩] (defBody s_Path_init) _
  refine s_fldN (ns := []) (f := fNil) (r := rTpv rStr) (N.kPath.sub (by decide)) (d_callT T.tuple bt_tuple (da_one (d_var 2 (c_tupleT (d_var 0 ⟨_, _, inferInstance, ?_⟩)))))
  refine s_fldN (ns := nsA) (f := fApp fNil (rTpv rStr)) (r := rAdr) (N.kPath.sub (by decide)) (d_lstO (ra := rLeg) (da_all0 ⟨(by walk_at "sc"), fun q1 hq1 => (d_var 0 ⟨_, _, inferInstance, ?_⟩)⟩))
  refine s_fldN (ns := nsB) (f := fApp (fApp fNil (rTpv rStr)) rAdr) (r := rLst rPt) (N.kPath.sub (by decide)) (d_lcP (js := [5]) (ra := rStr) (rb := rPt) (f := pt (fxOf ch)) [("name", 5)] [5] (fun _ => blkOk_by (N := N_Path_init) (sc := defScope s_Path_init) (by decide +kernel)) (w_tpv (d_var 2 ⟨rfl, hsz, fun gg D ys x hx => ?_, (d_var 0 ⟨_, _, inferInstance, ?_⟩)⟩)))
  · obtain ⟨p, hp, _⟩ := hfx x hx
    exact g_name 5 (d_dk (d_recP 1 0 rfl chN_nd (d_keyS (d_var 5 ⟨_, p, inferInstance, hp, ⟨(pt_of hp).symm, rfl⟩⟩))))
  refine s_fldN (ns := nsC) (f := fApp (fApp (fApp fNil (rTpv rStr)) rAdr) (rLst rPt)) (r := rAdr) (N.kPath.sub (by decide)) (d_lstO (ra := rInt) (da_all (d_int (da_all0 ⟨(by walk_at "sc"), fun q2 hq2 => (d_var 0 ⟨_, _, inferInstance, ?_⟩)⟩))))
  have hcut : cutL r (some 1) none = r.drop 1 := cut_from r 1 (by omega)
  have hnw : ¬ (HT.sIx r.length 0 (some 1) = 0 ∧ HT.sIx r.length r.length none = r.length) := fun z => by
    have e1 : HT.sIx r.length 0 (some 1) = min (1 : Int).toNat r.length := rfl
    have := z.1
    rw [e1] at this
    omega
  refine s_for (js := [3, 4]) (w_zipT (ra := rStr) (rb := rStr) T.zip (d_var 2 (d_slice (d_var 2 (do_at (d_int (do_no (sl_t hnw ?_))))))))
  rw [hcut]
  refine ⟨Nat, fun i d => d = i ∧ i + 1 ≤ r.length, fun _ => [some ⟨rAdr, sf⟩, some ⟨rChart, ch⟩, some ⟨(rTpv rStr), r⟩, none, none, none], fun d => [⟨q2, oLst rInt, (List.range (d + 1)).map (bg (fxOf ch) r)⟩, ⟨q1, oLst rLeg, (List.range d).map (lgAt (lgOf ch) r)⟩, ⟨sf, oIns N.cPath ns_Path pF4, (((((), r), q1), r.map (pt (fxOf ch))), q2)⟩], ⟨0, ⟨rfl, by omega⟩, ⟨rfl, rfl, rfl, trivial⟩, rfl⟩, fun g i x d hx hd => (g_tup (gs_cons (g_name 3 (gs_one (g_name 4 ?_))))), fun d hd => ?_⟩
  · obtain ⟨rfl, _⟩ := hd
    obtain ⟨hi, rfl⟩ := pairs_get hx
    obtain ⟨l, hl⟩ := hlg d hi
    have m1 := hfx _ (at_mem (show d < r.length by omega))
    have m2 := hfx _ (at_mem hi)
    dsimp only
    have z : 100000 ≤ sizeLine := by decide
    refine s_expr (d_app (ra := rLeg) (d_fldV N.kPath 0 1 rfl ns_Path_nd ⟨_, _, inferInstance, (d_call N.leg_between (ok_leg_between N T) (da_cons (d_var 1 (da_cons (d_var 3 (da_one (d_var 4 (sw_f ⟨l, hl⟩ ⟨_, _, inferInstance, ?_, ?_⟩))))))))⟩))
    · rw [List.length_map, List.length_range]
      omega
    · have hbl : atI ((List.range (d + 1)).map (bg (fxOf ch) r)) (-1) = some (bg (fxOf ch) r d) := atI_last (by rw [List.getLast?_eq_getElem?, List.length_map, List.length_range]; exact range_map_get (by omega))
      refine s_expr (d_app (ra := rInt) (d_fldV N.kPath 0 3 rfl ns_Path_nd ⟨_, _, inferInstance, (d_bin (d_ix (d_fldV N.kPath 0 3 rfl ns_Path_nd (d_un (d_int (u_neg (i_ls hbl (d_call N.leg_length (ok_leg_length N T) (da_cons (d_var 1 (da_cons (d_var 3 (da_one (d_var 4 (sw_f ⟨m1, m2⟩ (o_add ⟨_, _, inferInstance, ?_, ?_⟩))))))))))))))))⟩))
      · rw [List.length_map, List.length_range]
        omega
      · refine s_next (d + 1) ⟨rfl, by omega⟩ ⟨rfl, rfl, rfl, trivial⟩ ?_
        dsimp only
        rw [show (List.range (d + 1 + 1)).map (bg (fxOf ch) r) = (List.range (d + 1)).map (bg (fxOf ch) r) ++ [bg (fxOf ch) r d + ln (fxOf ch) (at_ r d) (at_ r (d + 1))] by rw [List.range_succ (n := d + 1), List.map_append]; rfl,
          show (List.range (d + 1)).map (lgAt (lgOf ch) r) = (List.range d).map (lgAt (lgOf ch) r) ++ [(lgb (lgOf ch) (at_ r d) (at_ r (d + 1))).getD dfl] by rw [List.range_succ (n := d), List.map_append]; rfl]
        rfl
  · obtain ⟨rfl, _⟩ := hd
    have hzl : (r.zip (r.drop 1)).length = r.length - 1 := by
      rw [List.length_zip, List.length_drop]
      omega
    refine s_frzIn (p := sf) (wo' := oIns N.cPath ns_Path pF3) (x' := (((((), r), q1), r.map (pt (fxOf ch))), (List.range ((r.zip (r.drop 1)).length + 1)).map (bg (fxOf ch) r))) hq2 inferInstance (fun hq ⟨dx, vs, e1, ⟨ws, v, e2, hf, hv⟩, hl⟩ => ⟨dx, vs, e1, ⟨ws, v, e2, hf, ?_⟩, hl⟩) ?_
    · rw [show v = V.ref q2 from hv]
      exact hq
    refine s_frzIn (p := sf) (wo' := oIns N.cPath ns_Path pF) (x' := (((((), r), (List.range (r.zip (r.drop 1)).length).map (lgAt (lgOf ch) r)), r.map (pt (fxOf ch))), (List.range ((r.zip (r.drop 1)).length + 1)).map (bg (fxOf ch) r))) hq1 inferInstance (fun hq ⟨dx, vs, e1, ⟨ws, v, e2, ⟨ws2, v2, e3, ⟨ws3, v3, e4, hf, hv3⟩, hv2⟩, hv⟩, hl⟩ => ⟨dx, vs, e1, ⟨ws, v, e2, ⟨ws2, v2, e3, ⟨ws3, v3, e4, hf, ?_⟩, hv2⟩, hv⟩, hl⟩) ?_
    · rw [show v3 = V.ref q1 from hv3]
      exact hq
    rw [hzl, show r.length - 1 + 1 = r.length by omega]
    exact s_fall (hk (y := ()) rfl)
end
end Law
set_option Elab.async false
set_option linter.all false
set_option maxRecDepth 100000
set_option maxHeartbeats 4100000
/-! PathC: what a path answers (shared by the laws of paths). -/
namespace MP
open PySem L2 Evl Sk
def laI (b : Nat → Int) (p : Int) : Nat → Nat
  | 0 => 0
  | i + 1 => if b (i + 1) ≤ p then i + 1 else laI b p i
theorem laI_ok {b : Nat → Int} (hb : ∀ i j, i ≤ j → b i ≤ b j) (p : Int) : ∀ i, laI b p i ≤ i ∧ (∀ j, 1 ≤ j → j ≤ laI b p i → b j ≤ p) ∧ ∀ j, laI b p i < j → j ≤ i → p < b j
  | 0 => ⟨Nat.le_refl _, fun j h1 h2 => absurd h2 (by show ¬ j ≤ 0; omega), fun j h1 h2 => absurd h1 (by show ¬ 0 < j; omega)⟩
  | i + 1 => by
    obtain ⟨h1, h2, h3⟩ := laI_ok hb p i
    unfold laI
    by_cases h : b (i + 1) ≤ p
    · rw [if_pos h]
      exact ⟨Nat.le_refl _, fun j _ hj => Int.le_trans (hb j (i + 1) hj) h, fun j a c => absurd a (by omega)⟩
    · rw [if_neg h]
      refine ⟨by omega, h2, fun j a c => ?_⟩
      by_cases e : j = i + 1
      · subst e
        omega
      · exact h3 j a (by omega)
theorem laI_la {b : Nat → Int} (hb : ∀ i j, i ≤ j → b i ≤ b j) (p : Int) {m : Nat} (hm : 1 ≤ m) : LaOk b m p (laI b p (m - 1)) := by
  obtain ⟨h1, h2, h3⟩ := laI_ok hb p (m - 1)
  refine ⟨by omega, h2, ?_⟩
  by_cases e : laI b p (m - 1) + 1 = m
  · exact .inl e
  · exact .inr (h3 _ (by omega) (by omega))
abbrev mx (a b : Int) : Int := if b > a then b else a
abbrev mn (a b : Int) : Int := if b < a then b else a
def vec (fx : Fx) (r : List Str) (k : Nat) : P3 := ((pt fx (at_ r (k + 1))).1 - (pt fx (at_ r k)).1, (pt fx (at_ r (k + 1))).2 - (pt fx (at_ r k)).2, bg fx r (k + 1) - bg fx r k)
def onL (fx : Fx) (r : List Str) (k : Nat) (p : Int) : P3 :=
  ((pt fx (at_ r k)).1 * (vec fx r k).2.2 + (vec fx r k).1 * (p - bg fx r k), (pt fx (at_ r k)).2 * (vec fx r k).2.2 + (vec fx r k).2.1 * (p - bg fx r k), (vec fx r k).2.2)
def la (fx : Fx) (r : List Str) (p : Int) : Nat := laI (bg fx r) p (r.length - 2)
def tot (fx : Fx) (r : List Str) : Int := bg fx r (r.length - 1)
def seg (fx : Fx) (r : List Str) (a b : Int) (k : Nat) : List (List Int) :=
  if decide (mx a (bg fx r k) < mn b (bg fx r (k + 1))) then [[(onL fx r k (mx a (bg fx r k))).1, (onL fx r k (mx a (bg fx r k))).2.1, (onL fx r k (mn b (bg fx r (k + 1)))).1, (onL fx r k (mn b (bg fx r (k + 1)))).2.1, (onL fx r k (mx a (bg fx r k))).2.2]] else []
def piece (fx : Fx) (r : List Str) (lo hi : Int) : List (List Int) :=
  if decide (hi < 0) || decide (tot fx r ≤ lo) then [] else
  if decide (mx lo 0 = mn hi (tot fx r)) then
    [[(onL fx r (la fx r (mx lo 0)) (mx lo 0)).1, (onL fx r (la fx r (mx lo 0)) (mx lo 0)).2.1, (onL fx r (la fx r (mx lo 0)) (mx lo 0)).1, (onL fx r (la fx r (mx lo 0)) (mx lo 0)).2.1, (onL fx r (la fx r (mx lo 0)) (mx lo 0)).2.2]]
  else (List.range (r.length - 1)).flatMap (seg fx r (mx lo 0) (mn hi (tot fx r)))
end MP
namespace Law
open PySem L2 Evl Sk MP
local macro_rules | `(tactic| walk_at "sc") => `(tactic| first | omega | assumption | (with_reducible exact mulOk) | (with_reducible exact smOk) | (with_reducible exact ⟨by decide, smOk⟩) | decide | (simp only [List.length_cons, List.length_nil]; decide) | exact divOk (by omega))
section
variable {P : Program} {w : World} {K : PySem.W.Frag} {mg : Str → Option Value} {base : Heap}
theorem atI_nat' {α : Type} {l : List α} {k : Nat} {x : α} (h : l[k]? = some x) : atI l (k : Int) = some x := by
  have hl := (List.getElem?_eq_some_iff.mp h).1
  unfold atI
  rw [atI_ok (by omega) (by omega)]
  show l[((k : Int)).toNat]? = some x
  rw [Int.toNat_natCast]
  exact h
theorem atI_int {α : Type} {l : List α} {i : Int} {x : α} (h0 : 0 ≤ i) (h : l[i.toNat]? = some x) : atI l i = some x := by
  have e : ((i.toNat : Nat) : Int) = i := by omega
  rw [← e]
  exact atI_nat' h
theorem bg_get {fx : Fx} {r : List Str} {k : Nat} (h : k < r.length) : (begins fx r)[k]? = some (bg fx r k) := range_map_get h
theorem lg_get {legs : List Leg} {r : List Str} {k : Nat} (h : k < r.length - 1) : (lgs legs r)[k]? = some (lgAt legs r k) := range_map_get h
theorem pt_get {fx : Fx} {r : List Str} {k : Nat} (h : k < r.length) : (r.map (pt fx))[k]? = some (pt fx (at_ r k)) := by
  rw [List.getElem?_map, at_get h]
  rfl
theorem lgs_len (legs : List Leg) (r : List Str) : (lgs legs r).length = r.length - 1 := by
  unfold lgs
  rw [List.length_map, List.length_range]
abbrev PR := ChV × List Str
abbrev sp_Path_total (C : Addr) (K : Fg) : Sp := spF K [] (fOne (rPath C)) (fun x => RtV x.1 x.2) rInt fun x => tot (fxOf x.1) x.2
theorem sc_Path_total : FnScope ["self"] ["self"] (defScope s_Path_total) := ⟨rfl, rfl, rfl, by decide +kernel, rfl, by decide +kernel, by decide +kernel⟩
theorem ok_Path_total (N : Nm K mg) (T : Bt mg) : FnOk P w K mg base CX0 1 N.mPath_total.f N.mPath_total.fd ["self"] (sp_Path_total N.cPath K) := by
  refine fn_m N.mPath_total.F sc_Path_total [] fun cdv A outer s G H E x Q fam hp hk => ?_
  obtain ⟨ch, r⟩ := x
  have h2 := hp.two
  dsimp only at h2
  show DS _ K ⟨[], _, G, H, []⟩ [some ⟨rPath N.cPath, (ch, r)⟩] _ (defBody s_Path_total) _
  have hl : atI (begins (fxOf ch) r) (-1) = some (tot (fxOf ch) r) := atI_last (by
    rw [List.getLast?_eq_getElem?, show (begins (fxOf ch) r).length = r.length by unfold begins; rw [List.length_map, List.length_range]]
    exact bg_get (by omega))
  exact s_ret (d_ix (d_fldV N.kPath 0 3 rfl ns_Path_nd (d_un (d_int (u_neg (i_lst hl (hk ⟨rfl, rfl⟩)))))))
abbrev sp_Path_leg (C : Addr) (K : Fg) : Sp := spF K [] (fCons (rPath C) (fOne rInt)) (fun x => RtV x.1.1 x.1.2 ∧ 0 ≤ x.2 ∧ x.2.toNat < x.1.2.length - 1) rLeg fun x => lgAt (lgOf x.1.1) x.1.2 x.2.toNat
theorem sc_Path_leg : FnScope ["self", "index"] ["self", "index"] (defScope s_Path_leg) := ⟨rfl, rfl, rfl, by decide +kernel, rfl, by decide +kernel, by decide +kernel⟩
theorem ok_Path_leg (N : Nm K mg) (T : Bt mg) : FnOk P w K mg base CX0 1 N.mPath_leg.f N.mPath_leg.fd ["self", "index"] (sp_Path_leg N.cPath K) := by
  refine fn_m N.mPath_leg.F sc_Path_leg [] fun cdv A outer s G H E x Q fam hp hk => ?_
  obtain ⟨⟨ch, r⟩, i⟩ := x
  obtain ⟨hr, h0, h1⟩ := hp
  dsimp only at h0 h1
  show DS _ K ⟨[], _, G, H, []⟩ [some ⟨rPath N.cPath, (ch, r)⟩, some ⟨rInt, i⟩] _ (defBody s_Path_leg) _
  exact s_ret (d_ix (d_fldV N.kPath 0 1 rfl ns_Path_nd (d_var 1 (i_lst (atI_int h0 (lg_get h1)) (hk ⟨rfl, rfl⟩)))))
abbrev sp_Path_leg_at (C : Addr) (K : Fg) : Sp := spF K [] (fCons (rPath C) (fOne rInt)) (fun x => RtV x.1.1 x.1.2) rInt fun x => ((la (fxOf x.1.1) x.1.2 x.2 : Nat) : Int)
theorem sc_Path_leg_at : FnScope ["self", "progress", "index"] ["self", "progress"] (defScope s_Path_leg_at) := ⟨rfl, rfl, rfl, by decide +kernel, rfl, by decide +kernel, by decide +kernel⟩
theorem ok_Path_leg_at (N : Nm K mg) (T : Bt mg) : FnOk P w K mg base CX0 1 N.mPath_leg_at.f N.mPath_leg_at.fd ["self", "progress"] (sp_Path_leg_at N.cPath K) := by
  refine fn_m N.mPath_leg_at.F sc_Path_leg_at [] fun cdv A outer s G H E x Q fam hp hk => ?_
  obtain ⟨⟨ch, r⟩, p⟩ := x
  have h2 := hp.two
  dsimp only at h2
  show DS _ K ⟨[], _, G, H, []⟩ [some ⟨rPath N.cPath, (ch, r)⟩, some ⟨rInt, p⟩, none] _ (defBody s_Path_leg_at) _
  refine s_set 2 (d_int ?_)
  refine s_while (δ := Nat) (fun k => k + 1 ≤ r.length - 1 ∧ ∀ j, 1 ≤ j → j ≤ k → bg (fxOf ch) r j ≤ p) (fun k => r.length - k) (fun k => [some ⟨rPath N.cPath, (ch, r)⟩, some ⟨rInt, p⟩, some ⟨rInt, (k : Int)⟩]) (fun _ => []) 0 ⟨by omega, fun j a b => absurd b (by omega)⟩ ⟨rfl, rfl, rfl, trivial⟩ rfl fun k hk2 => ?_
  obtain ⟨k1, k2⟩ := hk2
  have hlen : ((lgs (lgOf ch) r).length : Int) = ((r.length - 1 : Nat) : Int) := by rw [lgs_len]
  refine dt_then (x := decide ((k : Int) + 1 < ((lgs (lgOf ch) r).length : Int)) && decide (bg (fxOf ch) r (k + 1) ≤ p)) (dt_bool (dp_andP (dt_cmp (d_bin (d_var 2 (d_int (o_add (d_callB T.len bt_len (da_one (d_fldV N.kPath 0 1 rfl ns_Path_nd (c_lenL (o_lt ⟨rfl, rfl⟩)))))))))) (fun hb => ?_))) ⟨fun hb => ?_, fun hb => ?_⟩
  · have hb' := of_decide_eq_true hb
    rw [hlen] at hb'
    have hg : atI (begins (fxOf ch) r) ((k : Int) + 1) = some (bg (fxOf ch) r (k + 1)) := atI_nat' (k := k + 1) (bg_get (by omega))
    exact dp_and1 (dt_cmp (d_ix (d_fldV N.kPath 0 3 rfl ns_Path_nd (d_bin (d_var 2 (d_int (o_add (i_lst hg (d_var 1 (o_le ⟨rfl, rfl⟩))))))))))
  · simp only [Bool.and_eq_true, decide_eq_true_eq] at hb
    obtain ⟨hb1, hb2⟩ := hb
    rw [hlen] at hb1
    refine s_aug 2 ip_add (d_int ?_)
    refine s_next (k + 1) ⟨⟨by omega, fun j a c => ?_⟩, by omega⟩ ⟨rfl, rfl, rfl, trivial⟩ rfl
    by_cases e : j = k + 1
    · subst e
      exact hb2
    · exact k2 j a (by omega)
  · refine s_ret (d_var 2 (hk ⟨rfl, ?_⟩))
    show (k : Int) = ((la (fxOf ch) r p : Nat) : Int)
    have hk1 : LaOk (bg (fxOf ch) r) (r.length - 1) p k := by
      refine ⟨k1, k2, ?_⟩
      simp only [Bool.and_eq_false_iff, decide_eq_false_iff_not] at hb
      rcases hb with h | h
      · rw [hlen] at h
        exact .inl (by omega)
      · exact .inr (by omega)
    have hk3 := laI_la (fun i j => bg_mono (fxOf ch) r) p (m := r.length - 1) (by omega)
    rw [show r.length - 1 - 1 = r.length - 2 by omega] at hk3
    rw [la_unique (fun i j => bg_mono (fxOf ch) r) hk1 hk3]
    rfl
end
end Law
set_option Elab.async false
set_option linter.all false
set_option maxRecDepth 100000
set_option maxHeartbeats 4100000
/-! PathV: places and pieces of a path (shared by the laws of paths). -/
namespace Law
open PySem L2 Evl Sk MP
local macro_rules | `(tactic| walk_at "sc") => `(tactic| first | omega | assumption | (with_reducible exact mulOk) | (with_reducible exact smOk) | (with_reducible exact ⟨by decide, smOk⟩) | decide | (simp only [List.length_cons, List.length_nil]; decide) | exact divOk (by omega))
section
variable {P : Program} {w : World} {K : PySem.W.Frag} {mg : Str → Option Value} {base : Heap}
theorem RtV.ptOk {ch : ChV} {r : List Str} (h : RtV ch r) {k : Nat} (hk : k < r.length) : PtOk (pt (fxOf ch) (at_ r k)) := by
  obtain ⟨p, hp, o⟩ := h.fx _ (at_mem hk)
  rw [pt_of hp]
  exact o
theorem RtV.bgLe {ch : ChV} {r : List Str} (h : RtV ch r) {k : Nat} (hk : k < r.length) : bg (fxOf ch) r k ≤ 10000000000 := by
  have h1 := bg_le (fx := fxOf ch) (r := r) (fun n hn => by
    obtain ⟨p, hp, o⟩ := h.fx n hn
    rw [pt_of hp]
    exact o) hk
  have h2 := h.len
  have h3 : (k : Int) ≤ 1000 := by omega
  omega
theorem RtV.lnLe {ch : ChV} {r : List Str} (h : RtV ch r) {k : Nat} (hk : k + 1 < r.length) : 0 ≤ bg (fxOf ch) r (k + 1) - bg (fxOf ch) r k ∧ bg (fxOf ch) r (k + 1) - bg (fxOf ch) r k ≤ 10000000 := by
  have h1 := ln_nn (fxOf ch) (at_ r k) (at_ r (k + 1))
  have h2 := ln_le (h.ptOk (show k < r.length by omega)) (h.ptOk hk)
  have e : bg (fxOf ch) r (k + 1) = bg (fxOf ch) r k + ln (fxOf ch) (at_ r k) (at_ r (k + 1)) := rfl
  omega
theorem RtV.totLe {ch : ChV} {r : List Str} (h : RtV ch r) : tot (fxOf ch) r ≤ 10000000000 := h.bgLe (by have := h.two; omega)
theorem la_lt {fx : Fx} {r : List Str} (h : 2 ≤ r.length) (p : Int) : la fx r p + 1 < r.length := by
  have := (laI_la (fun i j => bg_mono fx r) p (m := r.length - 1) (by omega)).lt
  rw [show r.length - 1 - 1 = r.length - 2 by omega] at this
  unfold la
  omega
abbrev sp_Path_vector (C : Addr) (K : Fg) : Sp := spF K [] (fCons (rPath C) (fOne rInt)) (fun x => RtV x.1.1 x.1.2 ∧ 0 ≤ x.2 ∧ x.2.toNat + 1 < x.1.2.length) rP3 fun x => vec (fxOf x.1.1) x.1.2 x.2.toNat
theorem sc_Path_vector : FnScope ["self", "index", "ax", "ay", "bx", "by"] ["self", "index"] (defScope s_Path_vector) := ⟨rfl, rfl, rfl, by decide +kernel, rfl, by decide +kernel, by decide +kernel⟩
theorem ok_Path_vector (N : Nm K mg) (T : Bt mg) : FnOk P w K mg base CX0 1 N.mPath_vector.f N.mPath_vector.fd ["self", "index"] (sp_Path_vector N.cPath K) := by
  refine fn_m N.mPath_vector.F sc_Path_vector [] fun cdv A outer s G H E x Q fam hp hk => ?_
  obtain ⟨⟨ch, r⟩, i⟩ := x
  obtain ⟨hr, h0, h1⟩ := hp
  dsimp only at h0 h1
  have e1 : (i + 1).toNat = i.toNat + 1 := by omega
  have g1 := atI_int h0 (pt_get (fx := fxOf ch) (show i.toNat < r.length by omega))
  have g2 := atI_int (show 0 ≤ i + 1 by omega) (by rw [e1]; exact pt_get (fx := fxOf ch) h1)
  have g3 := atI_int h0 (bg_get (fx := fxOf ch) (show i.toNat < r.length by omega))
  have g4 := atI_int (show 0 ≤ i + 1 by omega) (by rw [e1]; exact bg_get (fx := fxOf ch) h1)
  show DS _ K ⟨[], _, G, H, []⟩ [some ⟨rPath N.cPath, (ch, r)⟩, some ⟨rInt, i⟩, none, none, none, none] _ (defBody s_Path_vector) _
  refine s_asg (js := [2, 3]) (ra := rPt) (d_ix (d_fldV N.kPath 0 2 rfl ns_Path_nd (d_var 1 (i_lst g1 (g_tup (gs_cons (g_name 2 (gs_one (g_name 3 ?_)))))))))
  refine s_asg (js := [4, 5]) (ra := rPt) (d_ix (d_fldV N.kPath 0 2 rfl ns_Path_nd (d_bin (d_var 1 (d_int (o_add (i_lst g2 (g_tup (gs_cons (g_name 4 (gs_one (g_name 5 ?_))))))))))))
  refine s_ret (d_tup (da_cons (d_bin (d_var 4 (d_var 2 (o_sub (da_cons (d_bin (d_var 5 (d_var 3 (o_sub (da_one (d_bin (d_ix (d_fldV N.kPath 0 3 rfl ns_Path_nd (d_bin (d_var 1 (d_int (o_add (i_lst g4 (d_ix (d_fldV N.kPath 0 3 rfl ns_Path_nd (d_var 1 (i_lst g3 (o_sub (hk ⟨rfl, rfl⟩))))))))))))))))))))))))))
end
end Law
set_option Elab.async false
set_option linter.all false
set_option maxRecDepth 100000
set_option maxHeartbeats 4100000
/-! PathD: places and pieces of a path (shared by the laws of paths). -/
namespace Law
open PySem L2 Evl Sk MP
local macro_rules | `(tactic| walk_at "sc") => `(tactic| first | omega | assumption | (with_reducible exact mulOk) | (with_reducible exact smOk) | (with_reducible exact ⟨by decide, smOk⟩) | decide | (simp only [List.length_cons, List.length_nil]; decide) | exact divOk (by omega))
section
variable {P : Program} {w : World} {K : PySem.W.Frag} {mg : Str → Option Value} {base : Heap}
structure OnOk (x : PR × Int × Int) : Prop where
  rt : RtV x.1.1 x.1.2
  i0 : 0 ≤ x.2.1
  i1 : x.2.1.toNat + 1 < x.1.2.length
  p0 : 0 ≤ x.2.2
  p1 : x.2.2 ≤ 100000000000
abbrev sp_Path_on_leg (C : Addr) (K : Fg) : Sp := spF K [] (fCons (rPath C) (fCons rInt (fOne rInt))) OnOk rP3 fun x => onL (fxOf x.1.1) x.1.2 x.2.1.toNat x.2.2
theorem sc_Path_on_leg : FnScope ["self", "index", "progress", "along", "ax", "ay", "dx", "dy", "length"] ["self", "index", "progress"] (defScope s_Path_on_leg) := ⟨rfl, rfl, rfl, by decide +kernel, rfl, by decide +kernel, by decide +kernel⟩
theorem ok_Path_on_leg (N : Nm K mg) (T : Bt mg) : FnOk P w K mg base CX0 2 N.mPath_on_leg.f N.mPath_on_leg.fd ["self", "index", "progress"] (sp_Path_on_leg N.cPath K) := by
  refine fn_m N.mPath_on_leg.F sc_Path_on_leg [] fun cdv A outer s G H E x Q fam hp hk => ?_
  obtain ⟨⟨ch, r⟩, i, p⟩ := x
  obtain ⟨hr, h0, h1, p0, p1⟩ := hp
  dsimp only at hr h0 h1 p0 p1
  have g1 := atI_int h0 (pt_get (fx := fxOf ch) (show i.toNat < r.length by omega))
  have g3 := atI_int h0 (bg_get (fx := fxOf ch) (show i.toNat < r.length by omega))
  obtain ⟨a1, a2, a3, a4⟩ := hr.ptOk (show i.toNat < r.length by omega)
  obtain ⟨b1, b2, b3, b4⟩ := hr.ptOk h1
  have l1 := hr.lnLe h1
  have l2 := bg_nn (fxOf ch) r i.toNat
  have l3 := hr.bgLe (show i.toNat < r.length by omega)
  have c1 : Bd 30 (pt (fxOf ch) (at_ r i.toNat)).1 := Bd.of (by omega) (by omega)
  have c2 : Bd 30 (pt (fxOf ch) (at_ r i.toNat)).2 := Bd.of (by omega) (by omega)
  have c3 : Bd 30 (vec (fxOf ch) r i.toNat).1 := Bd.of (by unfold vec; dsimp only; omega) (by unfold vec; dsimp only; omega)
  have c4 : Bd 30 (vec (fxOf ch) r i.toNat).2.1 := Bd.of (by unfold vec; dsimp only; omega) (by unfold vec; dsimp only; omega)
  have c5 : Bd 30 (vec (fxOf ch) r i.toNat).2.2 := Bd.of (by unfold vec; dsimp only; omega) (by unfold vec; dsimp only; omega)
  have c6 : Bd 40 (p - bg (fxOf ch) r i.toNat) := Bd.of (by omega) (by omega)
  show DS _ K ⟨[], _, G, H, []⟩ [some ⟨rPath N.cPath, (ch, r)⟩, some ⟨rInt, i⟩, some ⟨rInt, p⟩, none, none, none, none, none, none] _ (defBody s_Path_on_leg) _
  refine s_asg (js := [4, 5]) (ra := rPt) (d_ix (d_fldV N.kPath 0 2 rfl ns_Path_nd (d_var 1 (i_lst g1 (g_tup (gs_cons (g_name 4 (gs_one (g_name 5 ?_)))))))))
  refine s_asg (js := [6, 7, 8]) (ra := rP3) (d_meth N.kPath N.mPath_vector (ok_Path_vector N T) (d_var 0 ⟨_, inferInstance, (da_one (d_var 1 (sw_f ⟨hr, h0, h1⟩ (g_tup (gs_cons (g_name 6 (gs_cons (g_name 7 (gs_one (g_name 8 ?_))))))))))⟩))
  refine s_set 3 (d_bin (d_var 2 (d_ix (d_fldV N.kPath 0 3 rfl ns_Path_nd (d_var 1 (i_lst g3 (o_sub ?_)))))))
  refine s_ret (d_tup (da_cons (d_bin (d_bin (d_var 4 (d_var 8 (o_mul (by walk_at "sc") (d_bin (d_var 6 (d_var 3 (o_mul (by walk_at "sc") (o_add (da_cons (d_bin (d_bin (d_var 5 (d_var 8 (o_mul (by walk_at "sc") (d_bin (d_var 7 (d_var 3 (o_mul (by walk_at "sc") (o_add (da_one (d_var 8 (hk ⟨rfl, rfl⟩))))))))))))))))))))))))))
abbrev sp_Path_place (C : Addr) (K : Fg) : Sp := spF K [] (fCons (rPath C) (fOne rInt)) (fun x => RtV x.1.1 x.1.2 ∧ 0 ≤ x.2 ∧ x.2 ≤ 100000000000) rP3 fun x => onL (fxOf x.1.1) x.1.2 (la (fxOf x.1.1) x.1.2 x.2) x.2
theorem sc_Path_place : FnScope ["self", "progress"] ["self", "progress"] (defScope s_Path_place) := ⟨rfl, rfl, rfl, by decide +kernel, rfl, by decide +kernel, by decide +kernel⟩
theorem ok_Path_place (N : Nm K mg) (T : Bt mg) : FnOk P w K mg base CX0 3 N.mPath_place.f N.mPath_place.fd ["self", "progress"] (sp_Path_place N.cPath K) := by
  refine fn_m N.mPath_place.F sc_Path_place [] fun cdv A outer s G H E x Q fam hp hk => ?_
  obtain ⟨⟨ch, r⟩, p⟩ := x
  obtain ⟨hr, h0, h1⟩ := hp
  dsimp only at hr h0 h1
  show DS _ K ⟨[], _, G, H, []⟩ [some ⟨rPath N.cPath, (ch, r)⟩, some ⟨rInt, p⟩] _ (defBody s_Path_place) _
  refine s_ret (d_meth N.kPath N.mPath_on_leg (ok_Path_on_leg N T) (d_var 0 ⟨_, inferInstance, (da_cons (d_meth N.kPath N.mPath_leg_at (ok_Path_leg_at N T) (d_var 0 ⟨_, inferInstance, (da_one (d_var 1 (sw_f hr (da_one (d_var 1 (sw_f ⟨hr, Int.natCast_nonneg _, ?_, h0, h1⟩ (hk ⟨rfl, ?_⟩)))))))⟩)))⟩))
  · dsimp only
    rw [Int.toNat_natCast]
    exact la_lt hr.two p
  · dsimp only
    rw [Int.toNat_natCast]
end
end Law
set_option Elab.async false
set_option linter.all false
set_option maxRecDepth 100000
set_option maxHeartbeats 4100000
/-! PathE: pieces of a path (shared by the laws of paths). -/
namespace Law
open PySem L2 Evl Sk MP
local macro_rules | `(tactic| walk_at "sc") => `(tactic| first | omega | assumption | (with_reducible exact mulOk) | (with_reducible exact smOk) | (with_reducible exact ⟨by decide, smOk⟩) | decide | (simp only [List.length_cons, List.length_nil]; decide) | exact divOk (by omega))
section
variable {P : Program} {w : World} {K : PySem.W.Frag} {mg : Str → Option Value} {base : Heap}
theorem seg_len (fx : Fx) (r : List Str) (a b : Int) (k : Nat) : (seg fx r a b k).length ≤ 1 := by
  unfold seg
  split
  · exact Nat.le_refl _
  · exact Nat.zero_le _
theorem segs_len (fx : Fx) (r : List Str) (a b : Int) : ∀ n, ((List.range n).flatMap (seg fx r a b)).length ≤ n
  | 0 => Nat.zero_le _
  | n + 1 => by
    rw [List.range_succ, List.flatMap_append, List.length_append]
    have h1 := segs_len fx r a b n
    have h2 := seg_len fx r a b n
    have e : ([n].flatMap (seg fx r a b)).length = (seg fx r a b n).length := by simp
    omega
theorem segs_snoc (fx : Fx) (r : List Str) (a b : Int) (n : Nat) : (List.range (n + 1)).flatMap (seg fx r a b) = (List.range n).flatMap (seg fx r a b) ++ seg fx r a b n := by
  rw [List.range_succ, List.flatMap_append]
  simp
abbrev sp_Path_piece (C : Addr) (K : Fg) : Sp := spN K [] (fCons (rPath C) (fCons rInt (fOne rInt))) (fun x => RtV x.1.1 x.1.2) (oLst (rTpv rInt)) fun x d => d = piece (fxOf x.1.1) x.1.2 x.2.1 x.2.2
theorem sc_Path_piece : FnScope ["self", "low", "high", "first", "last", "line", "index", "start", "end", "x", "y", "d", "ax", "ay", "bx", "by", "_"] ["self", "low", "high"] (defScope s_Path_piece) := ⟨rfl, rfl, rfl, by decide +kernel, rfl, by decide +kernel, by decide +kernel⟩
theorem ok_Path_piece (N : Nm K mg) (T : Bt mg) : FnOk P w K mg base CX0 4 N.mPath_piece.f N.mPath_piece.fd ["self", "low", "high"] (sp_Path_piece N.cPath K) := by
  refine fn_m N.mPath_piece.F sc_Path_piece [] fun cdv A outer s G H E x Q fam hp hk => ?_
  obtain ⟨⟨ch, r⟩, lo, hi⟩ := x
  have hr : RtV ch r := hp
  have htot := hr.totLe
  have h2 := hr.two
  have hlen := hr.len
  have hk' : ∀ {Γ : Gm} {q : Addr} {d : List (List Int)}, d = piece (fxOf ch) r lo hi → RT K ⟨[], _, G, H, []⟩ Γ [⟨q, oLst (rTpv rInt), d⟩] rAdr q _ := fun {Γ q d} e => hk ⟨d, e, rfl⟩
  clear hk
  unfold piece at hk'
  show DS _ K ⟨[], _, G, H, []⟩ [some ⟨rPath N.cPath, (ch, r)⟩, some ⟨rInt, lo⟩, some ⟨rInt, hi⟩, none, none, none, none, none, none, none, none, none, none, none, none, none, none] [] (defBody s_Path_piece) _
  refine s_ifP (dt_bool (dp_orP (dt_cmp (d_var 2 (d_int (o_lt ⟨rfl, rfl⟩)))) (fun hb => (dp_or1 (dt_cmp (d_var 1 (d_meth0 N.kPath N.mPath_total (ok_Path_total N T) (d_var 0 ⟨_, inferInstance, (sw_f hr (o_ge ⟨rfl, rfl⟩))⟩)))))))) (fun hb => ?_) (fun hb => ?_)
  · refine s_ret (d_lstO (ra := rTpv rInt) (da_all0 ⟨(by walk_at "sc"), fun q hq => hk' ?_⟩))
    rw [if_pos hb]
  refine s_out ?_
  have hb1 := hb
  simp only [Bool.or_eq_false_iff, decide_eq_false_iff_not] at hb1
  obtain ⟨n1, n2⟩ := hb1
  rw [if_neg (by rw [hb]; exact Bool.false_ne_true)] at hk'
  refine s_set 3 (d_callB T.max bt_max (da_cons (d_var 1 (da_one (d_int (c_max2 ?_))))))
  refine s_set 4 (d_callB T.min bt_min (da_cons (d_var 2 (da_one (d_meth0 N.kPath N.mPath_total (ok_Path_total N T) (d_var 0 ⟨_, inferInstance, (sw_f hr (c_min2 ?_))⟩))))))
  dsimp only
  have f0 : 0 ≤ mx lo 0 ∧ mx lo 0 ≤ 10000000000 := by
    unfold mx
    split <;> omega
  have t0 := bg_nn (fxOf ch) r (r.length - 1)
  have l0 : 0 ≤ mn hi (tot (fxOf ch) r) ∧ mn hi (tot (fxOf ch) r) ≤ 10000000000 := by
    unfold mn tot at *
    split <;> omega
  refine s_ifP (x := decide (mx lo 0 = mn hi (tot (fxOf ch) r))) (dt_cmp (d_var 3 (d_var 4 (o_eqI ⟨rfl, rfl⟩)))) (fun hb2 => ?_) (fun hb2 => ?_)
  · rw [if_pos hb2] at hk'
    refine s_asg (js := [9, 10, 11]) (ra := rP3) (d_meth N.kPath N.mPath_place (ok_Path_place N T) (d_var 0 ⟨_, inferInstance, (da_one (d_var 3 (sw_f ⟨hr, f0.1, Int.le_trans f0.2 (by decide)⟩ (g_tup (gs_cons (g_name 9 (gs_cons (g_name 10 (gs_one (g_name 11 ?_))))))))))⟩))
    refine s_ret (d_lstO (ra := rTpv rInt) (da_all (d_tpv (ra := rInt) (da_all (d_var 9 (da_all (d_var 10 (da_all (d_var 9 (da_all (d_var 10 (da_all (d_var 11 (da_all0 ⟨?_, (da_all0 ⟨(by walk_at "sc"), fun q hq => hk' rfl⟩)⟩))))))))))))))
    exact Nat.le_trans (show 5 ≤ 1000 by decide) (by decide)
  refine s_out ?_
  rw [if_neg (by rw [hb2]; exact Bool.false_ne_true)] at hk'
  refine s_set 5 (d_lstO (ra := rTpv rInt) (da_all0 ⟨(by walk_at "sc"), fun q5 hq5 => ?_⟩))
  refine s_for (js := [6]) (w_rng1 T.range (d_callB T.len bt_len (da_one (d_fldV N.kPath 0 1 rfl ns_Path_nd (c_lenL ⟨?_, ?_⟩)))))
  · show -(2 ^ 62) ≤ ((lgs (lgOf ch) r).length : Int) ∧ ((lgs (lgOf ch) r).length : Int) < 2 ^ 62
    rw [lgs_len]
    omega
  have hln : (((lgs (lgOf ch) r).length : Int)).toNat = r.length - 1 := by rw [lgs_len, Int.toNat_natCast]
  rw [hln]
  refine ⟨Nat, fun i d => d = i ∧ i ≤ r.length - 1, fun _ => [some ⟨rPath N.cPath, (ch, r)⟩, some ⟨rInt, lo⟩, some ⟨rInt, hi⟩, some ⟨rInt, mx lo 0⟩, some ⟨rInt, mn hi (tot (fxOf ch) r)⟩, some ⟨rAdr, q5⟩, none, none, none, none, none, none, none, none, none, none, none], fun d => [⟨q5, oLst (rTpv rInt), (List.range d).flatMap (seg (fxOf ch) r (mx lo 0) (mn hi (tot (fxOf ch) r)))⟩], ⟨0, ⟨rfl, Nat.zero_le _⟩, ⟨rfl, rfl, rfl, rfl, rfl, rfl, trivial⟩, rfl⟩, fun g i x d hx hd => (g_name 6 ?_), fun d hd => ?_⟩
  · obtain ⟨rfl, _⟩ := hd
    obtain ⟨hlt, ex⟩ := rgI_item hx
    have ex : x = (d : Int) := by omega
    subst ex
    have hdl := segs_len (fxOf ch) r (mx lo 0) (mn hi (tot (fxOf ch) r)) d
    have g3 := atI_nat' (bg_get (fx := fxOf ch) (show d < r.length by omega))
    have g4 : atI (begins (fxOf ch) r) ((d : Int) + 1) = some (bg (fxOf ch) r (d + 1)) := atI_nat' (k := d + 1) (bg_get (by omega))
    have b3 := hr.bgLe (show d < r.length by omega)
    have b4 := hr.bgLe (show d + 1 < r.length by omega)
    have n3 := bg_nn (fxOf ch) r d
    have n4 := bg_nn (fxOf ch) r (d + 1)
    have s0 : 0 ≤ mx (mx lo 0) (bg (fxOf ch) r d) ∧ mx (mx lo 0) (bg (fxOf ch) r d) ≤ 10000000000 := by
      generalize mx lo 0 = u at *
      unfold mx
      split <;> omega
    have e0 : 0 ≤ mn (mn hi (tot (fxOf ch) r)) (bg (fxOf ch) r (d + 1)) ∧ mn (mn hi (tot (fxOf ch) r)) (bg (fxOf ch) r (d + 1)) ≤ 10000000000 := by
      generalize mn hi (tot (fxOf ch) r) = u at *
      unfold mn
      split <;> omega
    refine s_set 7 (d_callB T.max bt_max (da_cons (d_var 3 (da_one (d_ix (d_fldV N.kPath 0 3 rfl ns_Path_nd (d_var 6 (i_lst g3 (c_max2 ?_)))))))))
    refine s_set 8 (d_callB T.min bt_min (da_cons (d_var 4 (da_one (d_ix (d_fldV N.kPath 0 3 rfl ns_Path_nd (d_bin (d_var 6 (d_int (o_add (i_lst g4 (c_min2 ?_))))))))))))
    dsimp only
    refine s_ifP (x := decide (mx (mx lo 0) (bg (fxOf ch) r d) < mn (mn hi (tot (fxOf ch) r)) (bg (fxOf ch) r (d + 1)))) (dt_cmp (d_var 7 (d_var 8 (o_lt ⟨rfl, rfl⟩)))) (fun hb3 => ?_) (fun hb3 => ?_)
    · refine s_asg (js := [12, 13, 11]) (ra := rP3) (d_meth N.kPath N.mPath_on_leg (ok_Path_on_leg N T) (d_var 0 ⟨_, inferInstance, (da_cons (d_var 6 (da_one (d_var 7 (sw_f ⟨hr, Int.natCast_nonneg _, by dsimp only; rw [Int.toNat_natCast]; omega, s0.1, Int.le_trans s0.2 (by decide)⟩ (g_tup (gs_cons (g_name 12 (gs_cons (g_name 13 (gs_one (g_name 11 ?_))))))))))))⟩))
      refine s_asg (js := [14, 15, 16]) (ra := rP3) (d_meth N.kPath N.mPath_on_leg (ok_Path_on_leg N T) (d_var 0 ⟨_, inferInstance, (da_cons (d_var 6 (da_one (d_var 8 (sw_f ⟨hr, Int.natCast_nonneg _, by dsimp only; rw [Int.toNat_natCast]; omega, e0.1, Int.le_trans e0.2 (by decide)⟩ (g_tup (gs_cons (g_name 14 (gs_cons (g_name 15 (gs_one (g_name 16 ?_))))))))))))⟩))
      refine s_expr (d_app (ra := rTpv rInt) (d_var 5 ⟨_, _, inferInstance, (d_tpv (ra := rInt) (da_all (d_var 12 (da_all (d_var 13 (da_all (d_var 14 (da_all (d_var 15 (da_all (d_var 11 (da_all0 ⟨?_, ⟨_, _, inferInstance, ?_, ?_⟩⟩))))))))))))⟩))
      · exact Nat.le_trans (show 5 ≤ 1000 by decide) (by decide)
      · have : 100000 ≤ sizeLine := by decide
        omega
      · refine s_out (s_next (d + 1) ⟨rfl, by omega⟩ ⟨rfl, rfl, rfl, rfl, rfl, rfl, trivial⟩ ?_)
        dsimp only
        rw [segs_snoc]
        unfold seg
        rw [if_pos hb3, Int.toNat_natCast]
        rfl
    · refine s_out (s_next (d + 1) ⟨rfl, by omega⟩ ⟨rfl, rfl, rfl, rfl, rfl, rfl, trivial⟩ ?_)
      rw [segs_snoc, show seg (fxOf ch) r (mx lo 0) (mn hi (tot (fxOf ch) r)) d = [] by unfold seg; rw [if_neg (by rw [hb3]; exact Bool.false_ne_true)], List.append_nil]
  · obtain ⟨rfl, _⟩ := hd
    rw [rgI_len]
    exact s_ret (d_var 5 (hk' rfl))
end
end Law
set_option Elab.async false
set_option linter.all false
set_option maxRecDepth 100000
set_option maxHeartbeats 4100000
/-! LwA: the law's own roots, legs, begins (shared by the laws of paths). -/
namespace Law
open PySem L2 Evl Sk MP
local macro_rules | `(tactic| walk_at "sc") => `(tactic| first | omega | assumption | (with_reducible exact mulOk) | (with_reducible exact smOk) | (with_reducible exact ⟨by decide, smOk⟩) | decide | (simp only [List.length_cons, List.length_nil]; decide) | exact divOk (by omega))
section
variable {P : Program} {w : World} {K : PySem.W.Frag} {mg : Str → Option Value} {base : Heap}
abbrev sp_law_root_up (K : Fg) : Sp := spF K [] (fOne rInt) (fun n => 0 ≤ n ∧ n ≤ 10000000 * 10000000) rInt sqrU
theorem sc_law_root_up : FnScope ["_law_n", "_law_low", "_law_high", "_law_k", "_law_middle"] ["_law_n"] (defScope s_law_root_up) := ⟨rfl, rfl, rfl, by decide +kernel, rfl, by decide +kernel, by decide +kernel⟩
theorem ok_law_root_up (N : Nm K mg) (T : Bt mg) : FnOk P w K mg base CX0 1 N.law_root_up.f N.law_root_up.fd ["_law_n"] (sp_law_root_up K) := by
  refine fn_m N.law_root_up.F sc_law_root_up [] fun cdv A outer s G H E x Q fam hp hk => ?_
  obtain ⟨hp0, hp1⟩ := hp
  show DS _ K ⟨[], _, G, H, []⟩ [some ⟨rInt, x⟩, none, none, none, none] _ (defBody s_law_root_up) _
  refine s_set 1 (d_int ?_)
  refine s_set 2 (d_bin (d_int (d_int (o_pow (by walk_at "sc") ?_))))
  refine s_for (js := [3]) (w_rng1 T.range (d_int ⟨(by walk_at "sc"), ?_⟩))
  refine ⟨Int × Int, fun i d => HvOk x i d, fun d => [some ⟨rInt, x⟩, some ⟨rInt, d.1⟩, some ⟨rInt, d.2⟩, none, none], fun _ => [], ⟨(0, 10000000), hv_init hp1, ⟨rfl, rfl, congrArg (Slot.mk rInt) (by decide), trivial⟩, rfl⟩, fun g i y d hx hd => (g_name 3 ?_), fun d hd => ?_⟩
  · obtain ⟨lo, hi⟩ := d
    have hd' := hd
    obtain ⟨l0, lh, h1, _, _, _⟩ := hd'
    dsimp only at l0 lh h1
    dsimp only
    have bm : Bd 30 ((lo + hi) / 2) := Bd.of (by omega) (by omega)
    refine s_set 4 (d_bin (d_bin (d_var 1 (d_var 2 (o_add (d_int (o_div (divOk (by decide)) ?_)))))))
    refine s_ifP (dt_cmp (d_bin (d_var 4 (d_var 4 (o_mul (by walk_at "sc") (d_var 0 (o_ge ⟨rfl, rfl⟩))))))) (fun hb => ?_) (fun hb => ?_)
    · refine s_set 2 (d_var 4 (s_out ?_))
      exact s_next (lo, (lo + hi) / 2) (hv_hi hd (of_decide_eq_true hb)) ⟨rfl, rfl, rfl, trivial⟩ rfl
    · refine s_set 1 (d_bin (d_var 4 (d_int (o_add (s_out ?_)))))
      exact s_next ((lo + hi) / 2 + 1, hi) (hv_lo hp0 hd (of_decide_eq_false hb)) ⟨rfl, rfl, rfl, trivial⟩ rfl
  · exact s_ret (d_var 2 (hk ⟨rfl, hv_end hp0 hd⟩))
end
end Law
set_option Elab.async false
set_option linter.all false
set_option maxRecDepth 100000
set_option maxHeartbeats 4100000
/-! LwL: the law's own roots, legs, begins (shared by the laws of paths). -/
namespace Law
open PySem L2 Evl Sk MP
local macro_rules | `(tactic| walk_at "sc") => `(tactic| first | omega | assumption | (with_reducible exact mulOk) | (with_reducible exact smOk) | (with_reducible exact ⟨by decide, smOk⟩) | decide | (simp only [List.length_cons, List.length_nil]; decide) | exact divOk (by omega))
section
variable {P : Program} {w : World} {K : PySem.W.Frag} {mg : Str → Option Value} {base : Heap}
abbrev laL (bs : List Int) (p : Int) : Nat := laI (fun k => bs.getD k 0) p (bs.length - 2)
abbrev sp_leg_at (K : Fg) : Sp := spF K [] (fCons (rLst rInt) (fOne rInt)) (fun x => 2 ≤ x.1.length ∧ x.1.length ≤ 1000) rInt fun x => ((laL x.1 x.2 : Nat) : Int)
theorem sc_leg_at : FnScope ["_law_begins_here", "_law_progress", "_law_found", "_law_k"] ["_law_begins_here", "_law_progress"] (defScope s_leg_at) := ⟨rfl, rfl, rfl, by decide +kernel, rfl, by decide +kernel, by decide +kernel⟩
theorem ok_leg_at (N : Nm K mg) (T : Bt mg) : FnOk P w K mg base CX0 1 N.leg_at.f N.leg_at.fd ["_law_begins_here", "_law_progress"] (sp_leg_at K) := by
  refine fn_m N.leg_at.F sc_leg_at [] fun cdv A outer s G H E x Q fam hp hk => ?_
  obtain ⟨bs, p⟩ := x
  obtain ⟨h2, h3⟩ := hp
  dsimp only at h2 h3
  show DS _ K ⟨[], _, G, H, []⟩ [some ⟨(rLst rInt), bs⟩, some ⟨rInt, p⟩, none, none] _ (defBody s_leg_at) _
  refine s_set 2 (d_int ?_)
  refine s_for (js := [3]) (w_rng2 T.range (d_int (d_bin (d_callB T.len bt_len (da_one (d_var 0 (c_lenL (d_int (o_sub ⟨(by omega), ?_⟩)))))))))
  refine ⟨Nat, fun i d => d = i ∧ i ≤ bs.length - 2, fun d => [some ⟨(rLst rInt), bs⟩, some ⟨rInt, p⟩, some ⟨rInt, ((laI (fun k => bs.getD k 0) p d : Nat) : Int)⟩, none], fun _ => [], ⟨0, ⟨rfl, Nat.zero_le _⟩, ⟨rfl, rfl, rfl, trivial⟩, rfl⟩, fun g i y d hx hd => (g_name 3 ?_), fun d hd => ?_⟩
  · obtain ⟨rfl, _⟩ := hd
    obtain ⟨hlt, ey⟩ := rgI_item hx
    have ey : y = ((d + 1 : Nat) : Int) := by omega
    subst ey
    have g1 : atI bs ((d + 1 : Nat) : Int) = some (bs.getD (d + 1) 0) := atI_getD 0 (by omega) (by omega)
    refine s_ifP (dt_cmp (d_ix (d_var 0 (d_var 3 (i_lst g1 (d_var 1 (o_le ⟨rfl, rfl⟩))))))) (fun hb => ?_) (fun hb => ?_)
    · refine s_set 2 (d_var 3 (s_out ?_))
      refine s_next (d + 1) ⟨rfl, by omega⟩ ⟨rfl, rfl, congrArg (Slot.mk rInt) ?_, trivial⟩ rfl
      have e : laI (fun k => bs.getD k 0) p (d + 1) = d + 1 := if_pos (of_decide_eq_true hb)
      rw [e]
    · refine s_out (s_next (d + 1) ⟨rfl, by omega⟩ ⟨rfl, rfl, congrArg (Slot.mk rInt) ?_, trivial⟩ rfl)
      have e : laI (fun k => bs.getD k 0) p (d + 1) = laI (fun k => bs.getD k 0) p d := if_neg (of_decide_eq_false hb)
      rw [e]
  · obtain ⟨rfl, _⟩ := hd
    refine s_ret (d_var 2 (hk ⟨rfl, ?_⟩))
    rw [rgI_len, show ((bs.length : Int) - 1 - 1).toNat = bs.length - 2 by omega]
end
end Law
set_option Elab.async false
set_option linter.all false
set_option maxRecDepth 100000
set_option maxHeartbeats 4100000
/-! LwB: the law's own lengths, legs, begins (shared by the laws of paths). -/
namespace MP
open PySem L2 Evl Sk
theorem valX_over {κ α : Type} [DecidableEq κ] (k j : κ) (x : α) : ∀ xs : List (κ × α), valX (xs.map fun u => if u.1 = k then (u.1, x) else u) j = (valX xs j).map fun y => if j = k then x else y
  | [] => rfl
  | u :: r => by
    rw [List.map_cons]
    by_cases h : u.1 = j
    · have e1 : valX (u :: r) j = some u.2 := by simp [valX, h]
      rw [e1]
      by_cases hk : u.1 = k
      · rw [if_pos hk]
        have e2 : valX ((u.1, x) :: r.map fun u => if u.1 = k then (u.1, x) else u) j = some x := by simp [valX, h]
        rw [e2]
        simp [h.symm.trans hk]
      · rw [if_neg hk]
        have e2 : valX (u :: r.map fun u => if u.1 = k then (u.1, x) else u) j = some u.2 := by simp [valX, h]
        rw [e2]
        have : ¬ j = k := fun z => hk (h.trans z)
        simp [this]
    · have e1 : valX (u :: r) j = valX r j := by simp [valX, h]
      rw [e1, ← valX_over k j x r]
      by_cases hk : u.1 = k
      · rw [if_pos hk]
        simp [valX, h]
      · rw [if_neg hk]
        simp [valX, h]
theorem valX_any {κ α : Type} [DecidableEq κ] (k : κ) : ∀ xs : List (κ × α), (xs.any fun u => decide (u.1 = k)) = (valX xs k).isSome
  | [] => rfl
  | u :: r => by
    rw [List.any_cons, valX_any k r]
    by_cases h : u.1 = k
    · simp [valX, h]
    · simp [valX, h]
theorem valX_app {κ α : Type} [DecidableEq κ] (k j : κ) (x : α) : ∀ xs : List (κ × α), valX xs k = none → valX (xs ++ [(k, x)]) j = if j = k then some x else valX xs j
  | [], _ => by
    by_cases h : j = k
    · simp [valX, h]
    · have : ¬ k = j := fun z => h z.symm
      simp [valX, h, this]
  | u :: r, hn => by
    have hu : ¬ u.1 = k := fun z => by simp [valX, z] at hn
    have hr : valX r k = none := by
      have e : valX (u :: r) k = valX r k := by simp [valX, hu]
      rw [← e]
      exact hn
    have ih := valX_app k j x r hr
    by_cases h : u.1 = j
    · have : ¬ j = k := fun z => hu (h.trans z)
      simp [valX, h, this]
    · have e1 : valX (u :: r ++ [(k, x)]) j = valX (r ++ [(k, x)]) j := by simp [valX, h]
      have e2 : valX (u :: r) j = valX r j := by simp [valX, h]
      rw [e1, e2]
      exact ih
theorem valX_put {κ α : Type} [DecidableEq κ] (xs : List (κ × α)) (k j : κ) (x : α) : valX (putX xs k x) j = if j = k then some x else valX xs j := by
  unfold putX
  rw [valX_any]
  cases e : valX xs k with
  | none =>
    rw [if_neg (by simp)]
    exact valX_app k j x xs e
  | some y =>
    rw [if_pos (by simp), valX_over]
    by_cases h : j = k
    · subst h
      rw [e]
      simp
    · simp [h]
theorem putX_len {κ α : Type} [DecidableEq κ] (xs : List (κ × α)) (k : κ) (x : α) : (putX xs k x).length ≤ xs.length + 1 := by
  unfold putX
  split
  · rw [List.length_map]
    exact Nat.le_succ _
  · rw [List.length_append]
    exact Nat.le_refl _
end MP
set_option Elab.async false
set_option linter.all false
set_option maxRecDepth 100000
set_option maxHeartbeats 4100000
/-! LwC: the law's own legs, lengths, begins (shared by the laws of paths). -/
namespace Law
open PySem L2 Evl Sk MP
local macro_rules | `(tactic| walk_at "sc") => `(tactic| first | omega | assumption | (with_reducible exact mulOk) | (with_reducible exact smOk) | (with_reducible exact ⟨by decide, smOk⟩) | decide | (simp only [List.length_cons, List.length_nil]; decide) | exact divOk (by omega))
section
variable {P : Program} {w : World} {K : PySem.W.Frag} {mg : Str → Option Value} {base : Heap}
/-- a chart of the law -/
structure ChOk (ch : ChV) : Prop where
  len : (lgOf ch).length ≤ 1000
  pts : ∀ l ∈ lgOf ch, (∃ p, valX (fxOf ch) (Sum.inr l.1) = some p ∧ PtOk p) ∧ ∃ p, valX (fxOf ch) (Sum.inr l.2.1) = some p ∧ PtOk p
  so : ∀ l ∈ lgOf ch, PyData.strOk l.1 = true ∧ PyData.strOk l.2.1 = true ∧ PyData.strOk l.2.2.1 = true
  ap : ∀ l ∈ lgOf ch, 1 ≤ ln (fxOf ch) l.1 l.2.1
abbrev lkey (a b : Str) : List Key := [Sum.inr a, Sum.inr b]
theorem sq_flip (a b : Int) : (a - b) * (a - b) = (b - a) * (b - a) := by
  rw [← Int.neg_mul_neg (a - b) (a - b), Int.neg_sub]
abbrev sp_lengths (K : Fg) : Sp := sp0 K [] (fOne rChart) ChOk (rDt rInt) fun ch L => ∀ l ∈ lgOf ch, valX L (lkey l.1 l.2.1) = some (ln (fxOf ch) l.1 l.2.1)
theorem sc_lengths : FnScope ["_law_chart_here", "_law_lengths_here", "_law_leg_here", "_law_a", "_law_b"] ["_law_chart_here"] (defScope s_lengths) := ⟨rfl, rfl, rfl, by decide +kernel, rfl, by decide +kernel, by decide +kernel⟩
theorem ok_lengths (N : Nm K mg) (T : Bt mg) : FnOk P w K mg base CX0 2 N.lengths.f N.lengths.fd ["_law_chart_here"] (sp_lengths K) := by
  refine fn_m N.lengths.F sc_lengths [] fun cdv A outer s G H E ch Q fam hp hk => ?_
  obtain ⟨hlen, hpts, _, _⟩ := hp
  show DS _ K ⟨[], _, G, H, []⟩ [some ⟨rChart, ch⟩, none, none, none, none] [] (defBody s_lengths) _
  refine s_set 1 (d_dnewT rInt (fun q1 hq1 => ?_))
  refine s_for (js := [2]) (w_lst (ra := rLeg) (d_recP 0 1 rfl chN_nd ?_))
  refine ⟨List (List Key × Int), fun i L => L.length ≤ i ∧ ∀ l ∈ (lgOf ch).take i, valX L (lkey l.1 l.2.1) = some (ln (fxOf ch) l.1 l.2.1), fun _ => [some ⟨rChart, ch⟩, some ⟨rAdr, q1⟩, none, none, none], fun L => [⟨q1, oDt rInt, L⟩], ⟨[], ⟨Nat.le_refl 0, fun l hl => by simp at hl⟩, ⟨rfl, rfl, trivial⟩, rfl⟩, fun g i l L hx hd => (g_name 2 ?_), fun L hd => ?_⟩
  · obtain ⟨hL, hd⟩ := hd
    have hi : i < (lgOf ch).length := (List.getElem?_eq_some_iff.mp hx).1
    obtain ⟨⟨p, hp1, op⟩, ⟨q, hq1, oq⟩⟩ := hpts l (List.mem_of_getElem? hx)
    have b1 : Bd 30 (p.1 - q.1) := Bd.of (by have := op.x0; have := oq.x1; omega) (by have := op.x1; have := oq.x0; omega)
    have b2 : Bd 30 (p.2 - q.2) := Bd.of (by have := op.y0; have := oq.y1; omega) (by have := op.y1; have := oq.y0; omega)
    have hd2 := d2_le op oq
    have hd0 := d2_nn p q
    have e2 : (p.1 - q.1) * (p.1 - q.1) + (p.2 - q.2) * (p.2 - q.2) = d2 p q := by
      unfold d2
      rw [sq_flip p.1, sq_flip p.2]
    have hz : L.length < sizeLine := by
      have : 100000 ≤ sizeLine := by decide
      omega
    refine s_set 3 (d_dk (rc := rPt) (d_recP 0 0 rfl chN_nd (d_keyS (d_ix (d_var (ra := rLeg) (x := l) 2 (d_int (i_tup 0 ⟨_, p, inferInstance, hp1, ?_⟩)))))))
    refine s_set 4 (d_dk (rc := rPt) (d_recP 0 0 rfl chN_nd (d_keyS (d_ix (d_var (ra := rLeg) (x := l) 2 (d_int (i_tup 1 ⟨_, q, inferInstance, hq1, ?_⟩)))))))
    refine s_dputT (rc := rInt) (d_call N.law_root_up (ok_law_root_up N T) (da_one (d_bin (d_bin (d_bin (d_ix (d_var 3 (d_int (i_tup 0 (d_ix (d_var 4 (d_int (i_tup 0 (o_sub (d_bin (d_ix (d_var 3 (d_int (i_tup 0 (d_ix (d_var 4 (d_int (i_tup 0 (o_sub (o_mul (by walk_at "sc") (d_bin (d_bin (d_ix (d_var 3 (d_int (i_tup 1 (d_ix (d_var 4 (d_int (i_tup 1 (o_sub (d_bin (d_ix (d_var 3 (d_int (i_tup 1 (d_ix (d_var 4 (d_int (i_tup 1 (o_sub (o_mul (by walk_at "sc") (o_add (sw_f ⟨by rw [e2]; exact hd0, by rw [e2]; exact hd2⟩ (d_var 1 (d_tupK (da_all (d_keyS (d_ix (d_var (ra := rLeg) (x := l) 2 (d_int (i_tup 0 (da_all (d_keyS (d_ix (d_var (ra := rLeg) (x := l) 2 (d_int (i_tup 1 (da_all0 ⟨(by walk_at "sc"), ⟨_, _, inferInstance, hz, ?_⟩⟩))))))))))))))))))))))))))))))))))))))))))))))))))))))))))))))))
    refine s_next (putX L (lkey l.1 l.2.1) (ln (fxOf ch) l.1 l.2.1)) ⟨Nat.le_trans (putX_len _ _ _) (by omega), fun m hm => ?_⟩ ⟨rfl, rfl, trivial⟩ ?_
    · rw [take_snoc hx] at hm
      rw [valX_put]
      by_cases e : lkey m.1 m.2.1 = lkey l.1 l.2.1
      · rw [if_pos e]
        have e' : m.1 = l.1 ∧ m.2.1 = l.2.1 := by
          simp only [lkey, List.cons.injEq, Sum.inr.injEq, and_true] at e
          exact e
        rw [e'.1, e'.2]
      · rw [if_neg e]
        rcases List.mem_append.mp hm with z | z
        · exact hd m z
        · rw [List.mem_singleton] at z
          exact absurd (by rw [z]) e
    · have e3 : ln (fxOf ch) l.1 l.2.1 = sqrU ((p.1 - q.1) * (p.1 - q.1) + (p.2 - q.2) * (p.2 - q.2)) := by
        unfold ln
        rw [pt_of hp1, pt_of hq1, e2]
      rw [e3]
  · obtain ⟨_, hd⟩ := hd
    have hd' : ∀ l ∈ (lgOf ch).take (lgOf ch).length, valX L (lkey l.1 l.2.1) = some (ln (fxOf ch) l.1 l.2.1) := hd
    rw [List.take_length] at hd'
    exact s_ret (d_var 1 (rt_done hq1 (hk ⟨rfl, hd'⟩)))
end
end Law
set_option Elab.async false
set_option linter.all false
set_option maxRecDepth 100000
set_option maxHeartbeats 4100000
/-! LwD: the law's own begins (shared by the laws of paths). -/
namespace Law
open PySem L2 Evl Sk MP
local macro_rules | `(tactic| walk_at "sc") => `(tactic| first | omega | assumption | (with_reducible exact mulOk) | (with_reducible exact smOk) | (with_reducible exact ⟨by decide, smOk⟩) | decide | (simp only [List.length_cons, List.length_nil]; decide) | exact divOk (by omega))
abbrev LnV := List (List Key × Int)
def bgL (L : LnV) (r : List Str) : Nat → Int
  | 0 => 0
  | k + 1 => bgL L r k + (valX L (lkey (at_ r k) (at_ r (k + 1)))).getD 0
/-- the law's lengths are right -/
abbrev LenOk (ch : ChV) (L : LnV) : Prop := ∀ l ∈ lgOf ch, valX L (lkey l.1 l.2.1) = some (ln (fxOf ch) l.1 l.2.1)
theorem lgb_spec {legs : List Leg} {s e : Str} {l : Leg} (h : lgb legs s e = some l) : l ∈ legs ∧ l.1 = s ∧ l.2.1 = e := by
  unfold lgb at h
  have h1 := List.mem_of_find?_eq_some h
  have h2 := List.find?_some h
  simp only [Bool.and_eq_true, decide_eq_true_eq] at h2
  exact ⟨h1, h2.1, h2.2⟩
theorem LenOk.at {ch : ChV} {L : LnV} {r : List Str} (h : LenOk ch L) (hr : RtV ch r) {k : Nat} (hk : k + 1 < r.length) : valX L (lkey (at_ r k) (at_ r (k + 1))) = some (ln (fxOf ch) (at_ r k) (at_ r (k + 1))) := by
  obtain ⟨l, hl⟩ := hr.lg k hk
  obtain ⟨h1, h2, h3⟩ := lgb_spec hl
  have := h l h1
  rw [h2, h3] at this
  exact this
theorem bgL_eq {ch : ChV} {L : LnV} {r : List Str} (h : LenOk ch L) (hr : RtV ch r) : ∀ {k : Nat}, k < r.length → bgL L r k = bg (fxOf ch) r k
  | 0, _ => rfl
  | k + 1, hk => by
    show bgL L r k + (valX L (lkey (at_ r k) (at_ r (k + 1)))).getD 0 = bg (fxOf ch) r k + ln (fxOf ch) (at_ r k) (at_ r (k + 1))
    rw [bgL_eq h hr (k := k) (by omega), h.at hr hk]
    rfl
theorem bgLs_eq {ch : ChV} {L : LnV} {r : List Str} (h : LenOk ch L) (hr : RtV ch r) : (List.range r.length).map (bgL L r) = begins (fxOf ch) r :=
  List.map_congr_left fun k hk => bgL_eq h hr (List.mem_range.mp hk)
theorem begins_len (fx : Fx) (r : List Str) : (begins fx r).length = r.length := by
  unfold begins
  rw [List.length_map, List.length_range]
theorem laI_congr {b c : Nat → Int} (p : Int) : ∀ {m : Nat}, (∀ k, k ≤ m → b k = c k) → laI b p m = laI c p m
  | 0, _ => rfl
  | m + 1, h => by
    unfold laI
    rw [h (m + 1) (Nat.le_refl _), laI_congr p (m := m) fun k hk => h k (by omega)]
theorem laL_eq {fx : Fx} {r : List Str} (h2 : 2 ≤ r.length) (p : Int) : laL (begins fx r) p = la fx r p := by
  unfold laL la
  rw [begins_len]
  refine laI_congr p fun k hk => ?_
  rw [List.getD_eq_getElem?_getD, bg_get (by omega)]
  rfl
section
variable {P : Program} {w : World} {K : PySem.W.Frag} {mg : Str → Option Value} {base : Heap}
abbrev sp_begins (K : Fg) : Sp := spF K [] (fCons (rDt rInt) (fOne (rTpv rStr))) (fun x => 2 ≤ x.2.length ∧ x.2.length ≤ 1000 ∧ ∀ k, k + 1 < x.2.length → ∃ z, valX x.1 (lkey (at_ x.2 k) (at_ x.2 (k + 1))) = some z) (rLst rInt) fun x => (List.range x.2.length).map (bgL x.1 x.2)
theorem sc_begins : FnScope ["_law_lengths_here", "_law_route", "_law_begins_here", "_law_k"] ["_law_lengths_here", "_law_route"] (defScope s_begins) := ⟨rfl, rfl, rfl, by decide +kernel, rfl, by decide +kernel, by decide +kernel⟩
theorem ok_begins (N : Nm K mg) (T : Bt mg) : FnOk P w K mg base CX0 1 N.begins.f N.begins.fd ["_law_lengths_here", "_law_route"] (sp_begins K) := by
  refine fn_m N.begins.F sc_begins [] fun cdv A outer s G H E x Q fam hp hk => ?_
  obtain ⟨L, r⟩ := x
  obtain ⟨h2, h3, hv⟩ := hp
  dsimp only at h2 h3 hv
  have z1 : 100000 ≤ sizeLine := by decide
  show DS _ K ⟨[], _, G, H, []⟩ [some ⟨(rDt rInt), L⟩, some ⟨(rTpv rStr), r⟩, none, none] [] (defBody s_begins) _
  refine s_set 2 (d_lstO (ra := rInt) (da_all (d_int (da_all0 ⟨(by walk_at "sc"), fun q2 hq2 => ?_⟩))))
  refine s_for (js := [3]) (w_rng1 T.range (d_bin (d_callB T.len bt_len (da_one (d_var 1 (c_lenT (d_int (o_sub ⟨(by omega), ?_⟩))))))))
  refine ⟨Nat, fun i d => d = i ∧ i + 1 ≤ r.length, fun _ => [some ⟨(rDt rInt), L⟩, some ⟨(rTpv rStr), r⟩, some ⟨rAdr, q2⟩, none], fun d => [⟨q2, oLst rInt, (List.range (d + 1)).map (bgL L r)⟩], ⟨0, ⟨rfl, by omega⟩, ⟨rfl, rfl, rfl, trivial⟩, rfl⟩, fun g i x d hx hd => (g_name 3 ?_), fun d hd => ?_⟩
  · obtain ⟨rfl, _⟩ := hd
    obtain ⟨hlt, ex⟩ := rgI_item hx
    have ex : x = (d : Int) := by omega
    subst ex
    obtain ⟨z, hz⟩ := hv d (by omega)
    have g1 : atI ((List.range (d + 1)).map (bgL L r)) (d : Int) = some (bgL L r d) := atI_nat' (range_map_get (by omega))
    have g2 := atI_nat' (at_get (show d < r.length by omega))
    have g3 : atI r ((d : Int) + 1) = some (at_ r (d + 1)) := atI_nat' (k := d + 1) (at_get (by omega))
    refine s_expr (d_app (ra := rInt) (d_var 2 ⟨_, _, inferInstance, (d_bin (d_ix (d_var 2 (d_var 3 (i_ls g1 (d_dt (rc := rInt) (d_var 0 (d_tupK (da_all (d_keyS (d_ix (d_var 1 (d_var 3 (i_tpv g2 (da_all (d_keyS (d_ix (d_var 1 (d_bin (d_var 3 (d_int (o_add (i_tpv g3 (da_all0 ⟨(by walk_at "sc"), ⟨_, z, inferInstance, hz, (o_add ⟨_, _, inferInstance, ?_, ?_⟩)⟩⟩))))))))))))))))))))))))⟩))
    · rw [List.length_map, List.length_range]
      omega
    · refine s_next (d + 1) ⟨rfl, by omega⟩ ⟨rfl, rfl, rfl, trivial⟩ ?_
      rw [show (List.range (d + 1 + 1)).map (bgL L r) = (List.range (d + 1)).map (bgL L r) ++ [bgL L r (d + 1)] by rw [List.range_succ (n := d + 1), List.map_append]; rfl]
      show _ = [Own.mk q2 (oLst rInt) ((List.range (d + 1)).map (bgL L r) ++ [bgL L r d + (valX L (lkey (at_ r d) (at_ r (d + 1)))).getD 0])]
      rw [hz]
      rfl
  · obtain ⟨rfl, _⟩ := hd
    refine s_ret (d_var 2 (rt_done hq2 (hk ⟨rfl, ?_⟩)))
    rw [rgI_len]
    dsimp only
    rw [show ((r.length : Int) - 1).toNat + 1 = r.length by omega]
end
end Law
set_option Elab.async false
set_option linter.all false
set_option maxRecDepth 100000
set_option maxHeartbeats 4100000
/-! LwE: the law's own places (k09). -/
namespace Law
open PySem L2 Evl Sk MP
local macro_rules | `(tactic| walk_at "sc") => `(tactic| first | omega | assumption | (with_reducible exact mulOk) | (with_reducible exact smOk) | (with_reducible exact ⟨by decide, smOk⟩) | decide | (simp only [List.length_cons, List.length_nil]; decide) | exact divOk (by omega))
section
variable {P : Program} {w : World} {K : PySem.W.Frag} {mg : Str → Option Value} {base : Heap}
structure PonOk (x : ChV × List Str × List Int × Int × Int) : Prop where
  rt : RtV x.1 x.2.1
  bs : x.2.2.1 = begins (fxOf x.1) x.2.1
  i0 : 0 ≤ x.2.2.2.1
  i1 : x.2.2.2.1.toNat + 1 < x.2.1.length
  p0 : 0 ≤ x.2.2.2.2
  p1 : x.2.2.2.2 ≤ 100000000000
abbrev sp_place_on (K : Fg) : Sp := spF K [] (fCons rChart (fCons (rTpv rStr) (fCons (rLst rInt) (fCons rInt (fOne rInt))))) PonOk rP3 fun x => onL (fxOf x.1) x.2.1 x.2.2.2.1.toNat x.2.2.2.2
theorem sc_place_on : FnScope ["_law_chart_here", "_law_route", "_law_begins_here", "_law_k", "_law_progress", "_law_a", "_law_b", "_law_length", "_law_way"] ["_law_chart_here", "_law_route", "_law_begins_here", "_law_k", "_law_progress"] (defScope s_place_on) := ⟨rfl, rfl, rfl, by decide +kernel, rfl, by decide +kernel, by decide +kernel⟩
theorem ok_place_on (N : Nm K mg) (T : Bt mg) : FnOk P w K mg base CX0 1 N.place_on.f N.place_on.fd ["_law_chart_here", "_law_route", "_law_begins_here", "_law_k", "_law_progress"] (sp_place_on K) := by
  refine fn_m N.place_on.F sc_place_on [] fun cdv A outer s G H E x Q fam hp hk => ?_
  obtain ⟨ch, r, bs, i, p⟩ := x
  obtain ⟨hr, hbs, h0, h1, p0, p1⟩ := hp
  dsimp only at hr hbs h0 h1 p0 p1
  subst hbs
  have e1 : (i + 1).toNat = i.toNat + 1 := by omega
  have g1 := atI_int h0 (at_get (show i.toNat < r.length by omega))
  have g2 := atI_int (show 0 ≤ i + 1 by omega) (by rw [e1]; exact at_get h1)
  have g3 := atI_int h0 (bg_get (fx := fxOf ch) (show i.toNat < r.length by omega))
  have g4 := atI_int (show 0 ≤ i + 1 by omega) (by rw [e1]; exact bg_get (fx := fxOf ch) h1)
  obtain ⟨a, ha, oa⟩ := hr.fx _ (at_mem (show i.toNat < r.length by omega))
  obtain ⟨b, hb, ob⟩ := hr.fx _ (at_mem h1)
  have l1 := hr.lnLe h1
  have l2 := bg_nn (fxOf ch) r i.toNat
  have l3 := hr.bgLe (show i.toNat < r.length by omega)
  have c1 : Bd 30 a.1 := Bd.of (by have := oa.x0; omega) (by have := oa.x1; omega)
  have c2 : Bd 30 a.2 := Bd.of (by have := oa.y0; omega) (by have := oa.y1; omega)
  have c3 : Bd 30 (b.1 - a.1) := Bd.of (by have := oa.x1; have := ob.x0; omega) (by have := oa.x0; have := ob.x1; omega)
  have c4 : Bd 30 (b.2 - a.2) := Bd.of (by have := oa.y1; have := ob.y0; omega) (by have := oa.y0; have := ob.y1; omega)
  have c5 : Bd 30 (bg (fxOf ch) r (i.toNat + 1) - bg (fxOf ch) r i.toNat) := Bd.of (by omega) (by omega)
  have c6 : Bd 40 (p - bg (fxOf ch) r i.toNat) := Bd.of (by omega) (by omega)
  show DS _ K ⟨[], _, G, H, []⟩ [some ⟨rChart, ch⟩, some ⟨(rTpv rStr), r⟩, some ⟨(rLst rInt), begins (fxOf ch) r⟩, some ⟨rInt, i⟩, some ⟨rInt, p⟩, none, none, none, none] _ (defBody s_place_on) _
  refine s_set 5 (d_dk (rc := rPt) (d_recP 0 0 rfl chN_nd (d_keyS (d_ix (d_var 1 (d_var 3 (i_tpv g1 ⟨_, a, inferInstance, ha, ?_⟩)))))))
  refine s_set 6 (d_dk (rc := rPt) (d_recP 0 0 rfl chN_nd (d_keyS (d_ix (d_var 1 (d_bin (d_var 3 (d_int (o_add (i_tpv g2 ⟨_, b, inferInstance, hb, ?_⟩))))))))))
  refine s_set 7 (d_bin (d_ix (d_var 2 (d_bin (d_var 3 (d_int (o_add (i_lst g4 (d_ix (d_var 2 (d_var 3 (i_lst g3 (o_sub ?_)))))))))))))
  refine s_set 8 (d_bin (d_var 4 (d_ix (d_var 2 (d_var 3 (i_lst g3 (o_sub ?_)))))))
  refine s_ret (d_tup (da_cons (d_bin (d_bin (d_ix (d_var 5 (d_int (i_tup 0 (d_var 7 (o_mul (by walk_at "sc") (d_bin (d_bin (d_ix (d_var 6 (d_int (i_tup 0 (d_ix (d_var 5 (d_int (i_tup 0 (o_sub (d_var 8 (o_mul (by walk_at "sc") (o_add (da_cons (d_bin (d_bin (d_ix (d_var 5 (d_int (i_tup 1 (d_var 7 (o_mul (by walk_at "sc") (d_bin (d_bin (d_ix (d_var 6 (d_int (i_tup 1 (d_ix (d_var 5 (d_int (i_tup 1 (o_sub (d_var 8 (o_mul (by walk_at "sc") (o_add (da_one (d_var 7 (hk ⟨rfl, ?_⟩))))))))))))))))))))))))))))))))))))))))))))))))))
  dsimp only
  unfold onL vec
  rw [pt_of ha, pt_of hb]
end
end Law
set_option Elab.async false
set_option linter.all false
set_option maxRecDepth 100000
set_option maxHeartbeats 4100000
/-! LwO: places are of a few bits (shared by the laws of radar). -/
namespace Law
open PySem L2 Evl Sk MP
local macro_rules | `(tactic| walk_at "sc") => `(tactic| first | omega | assumption | (with_reducible exact mulOk) | (with_reducible exact smOk) | (with_reducible exact ⟨by decide, smOk⟩) | decide | (simp only [List.length_cons, List.length_nil]; decide) | exact divOk (by omega))
end Law
set_option Elab.async false
set_option linter.all false
set_option maxRecDepth 100000
set_option maxHeartbeats 4100000
/-! LwF: the law's own pieces (shared by the laws of paths). -/
namespace Law
open PySem L2 Evl Sk MP
local macro_rules | `(tactic| walk_at "sc") => `(tactic| first | omega | assumption | (with_reducible exact mulOk) | (with_reducible exact smOk) | (with_reducible exact ⟨by decide, smOk⟩) | decide | (simp only [List.length_cons, List.length_nil]; decide) | exact divOk (by omega))
section
variable {P : Program} {w : World} {K : PySem.W.Frag} {mg : Str → Option Value} {base : Heap}
abbrev sp_piece (K : Fg) : Sp := spF K [] (fCons rChart (fCons (rTpv rStr) (fCons (rLst rInt) (fCons rInt (fOne rInt))))) (fun x => RtV x.1 x.2.1 ∧ x.2.2.1 = begins (fxOf x.1) x.2.1) (rLst (rTpv rInt)) fun x => piece (fxOf x.1) x.2.1 x.2.2.2.1 x.2.2.2.2
theorem sc_piece : FnScope ["_law_chart_here", "_law_route", "_law_begins_here", "_law_low", "_law_high", "_law_total", "_law_first", "_law_last", "_law_line", "_law_k", "_law_place", "_law_start_here", "_law_end", "_law_a", "_law_b"] ["_law_chart_here", "_law_route", "_law_begins_here", "_law_low", "_law_high"] (defScope s_piece) := ⟨rfl, rfl, rfl, by decide +kernel, rfl, by decide +kernel, by decide +kernel⟩
theorem ok_piece (N : Nm K mg) (T : Bt mg) : FnOk P w K mg base CX0 2 N.piece.f N.piece.fd ["_law_chart_here", "_law_route", "_law_begins_here", "_law_low", "_law_high"] (sp_piece K) := by
  refine fn_m N.piece.F sc_piece [] fun cdv A outer s G H E x Q fam hp hk => ?_
  obtain ⟨ch, r, bs, lo, hi⟩ := x
  obtain ⟨hr, hbs⟩ := hp
  dsimp only at hr hbs
  subst hbs
  have htot := hr.totLe
  have h2 := hr.two
  have hlen := hr.len
  have hk' : ∀ {Γ : Gm} {d : List (List Int)}, d = piece (fxOf ch) r lo hi → RT K ⟨[], _, G, H, []⟩ Γ [] (rLst (rTpv rInt)) d _ := fun {Γ d} e => hk ⟨rfl, e⟩
  clear hk
  unfold piece at hk'
  have hbl := begins_len (fxOf ch) r
  have gt : atI (begins (fxOf ch) r) ((begins (fxOf ch) r).length - 1 : Int) = some (tot (fxOf ch) r) := by
    refine atI_int (by omega) ?_
    rw [show (((begins (fxOf ch) r).length : Int) - 1).toNat = r.length - 1 by omega]
    exact bg_get (by omega)
  show DS _ K ⟨[], _, G, H, []⟩ [some ⟨rChart, ch⟩, some ⟨(rTpv rStr), r⟩, some ⟨(rLst rInt), begins (fxOf ch) r⟩, some ⟨rInt, lo⟩, some ⟨rInt, hi⟩, none, none, none, none, none, none, none, none, none, none] [] (defBody s_piece) _
  refine s_set 5 (d_ix (d_var 2 (d_bin (d_callB T.len bt_len (da_one (d_var 2 (c_lenL (d_int (o_sub (i_lst gt ?_))))))))))
  refine s_ifP (dt_bool (dp_orP (dt_cmp (d_var 4 (d_int (o_lt ⟨rfl, rfl⟩)))) (fun hb => (dp_or1 (dt_cmp (d_var 3 (d_var 5 (o_ge ⟨rfl, rfl⟩)))))))) (fun hb => ?_) (fun hb => ?_)
  · refine s_ret (d_lst (ra := rTpv rInt) (da_all0 ⟨(by walk_at "sc"), hk' ?_⟩))
    rw [if_pos hb]
  refine s_out ?_
  have hb1 := hb
  simp only [Bool.or_eq_false_iff, decide_eq_false_iff_not] at hb1
  obtain ⟨n1, n2⟩ := hb1
  rw [if_neg (by rw [hb]; exact Bool.false_ne_true)] at hk'
  refine s_set 6 (d_callB T.max bt_max (da_cons (d_var 3 (da_one (d_int (c_max2 ?_))))))
  refine s_set 7 (d_callB T.min bt_min (da_cons (d_var 4 (da_one (d_var 5 (c_min2 ?_))))))
  dsimp only
  have f0 : 0 ≤ mx lo 0 ∧ mx lo 0 ≤ 10000000000 := by
    unfold mx
    split <;> omega
  have t0 := bg_nn (fxOf ch) r (r.length - 1)
  have l0 : 0 ≤ mn hi (tot (fxOf ch) r) ∧ mn hi (tot (fxOf ch) r) ≤ 10000000000 := by
    unfold mn tot at *
    split <;> omega
  refine s_ifP (x := decide (mx lo 0 = mn hi (tot (fxOf ch) r))) (dt_cmp (d_var 6 (d_var 7 (o_eqI ⟨rfl, rfl⟩)))) (fun hb2 => ?_) (fun hb2 => ?_)
  · rw [if_pos hb2] at hk'
    have hla := laL_eq (fx := fxOf ch) h2 (mx lo 0)
    refine s_set 10 (d_call N.place_on (ok_place_on N T) (da_cons (d_var 0 (da_cons (d_var 1 (da_cons (d_var 2 (da_cons (d_call N.leg_at (ok_leg_at N T) (da_cons (d_var 2 (da_one (d_var 6 (sw_f ⟨by dsimp only; omega, by dsimp only; omega⟩ (da_one (d_var 6 (sw_f ⟨hr, rfl, Int.natCast_nonneg _, ?_, f0.1, Int.le_trans f0.2 (by decide)⟩ ?_)))))))))))))))))
    · dsimp only
      rw [Int.toNat_natCast, hla]
      exact la_lt hr.two _
    dsimp only
    rw [Int.toNat_natCast, hla]
    refine s_ret (d_lst (ra := rTpv rInt) (da_all (d_tpv (ra := rInt) (da_all (d_ix (d_var (ra := rP3) 10 (d_int (i_tup 0 (da_all (d_ix (d_var (ra := rP3) 10 (d_int (i_tup 1 (da_all (d_ix (d_var (ra := rP3) 10 (d_int (i_tup 0 (da_all (d_ix (d_var (ra := rP3) 10 (d_int (i_tup 1 (da_all (d_ix (d_var (ra := rP3) 10 (d_int (i_tup 2 (da_all0 ⟨?_, (da_all0 ⟨(by walk_at "sc"), hk' rfl⟩)⟩)))))))))))))))))))))))))))))
    exact Nat.le_trans (show 5 ≤ 1000 by decide) (by decide)
  refine s_out ?_
  rw [if_neg (by rw [hb2]; exact Bool.false_ne_true)] at hk'
  refine s_set 8 (d_lstO (ra := rTpv rInt) (da_all0 ⟨(by walk_at "sc"), fun q5 hq5 => ?_⟩))
  refine s_for (js := [9]) (w_rng1 T.range (d_bin (d_callB T.len bt_len (da_one (d_var 1 (c_lenT (d_int (o_sub ⟨(by omega), ?_⟩))))))))
  rw [show ((r.length : Int) - 1).toNat = r.length - 1 by omega]
  refine ⟨Nat, fun i d => d = i ∧ i ≤ r.length - 1, fun _ => [some ⟨rChart, ch⟩, some ⟨(rTpv rStr), r⟩, some ⟨(rLst rInt), begins (fxOf ch) r⟩, some ⟨rInt, lo⟩, some ⟨rInt, hi⟩, some ⟨rInt, tot (fxOf ch) r⟩, some ⟨rInt, mx lo 0⟩, some ⟨rInt, mn hi (tot (fxOf ch) r)⟩, some ⟨rAdr, q5⟩, none, none, none, none, none, none], fun d => [⟨q5, oLst (rTpv rInt), (List.range d).flatMap (seg (fxOf ch) r (mx lo 0) (mn hi (tot (fxOf ch) r)))⟩], ⟨0, ⟨rfl, Nat.zero_le _⟩, ⟨rfl, rfl, rfl, rfl, rfl, rfl, rfl, rfl, rfl, trivial⟩, rfl⟩, fun g i x d hx hd => (g_name 9 ?_), fun d hd => ?_⟩
  · obtain ⟨rfl, _⟩ := hd
    obtain ⟨hlt, ex⟩ := rgI_item hx
    have ex : x = (d : Int) := by omega
    subst ex
    have hdl := segs_len (fxOf ch) r (mx lo 0) (mn hi (tot (fxOf ch) r)) d
    have g3 := atI_nat' (bg_get (fx := fxOf ch) (show d < r.length by omega))
    have g4 : atI (begins (fxOf ch) r) ((d : Int) + 1) = some (bg (fxOf ch) r (d + 1)) := atI_nat' (k := d + 1) (bg_get (by omega))
    have b3 := hr.bgLe (show d < r.length by omega)
    have b4 := hr.bgLe (show d + 1 < r.length by omega)
    have n3 := bg_nn (fxOf ch) r d
    have n4 := bg_nn (fxOf ch) r (d + 1)
    have s0 : 0 ≤ mx (mx lo 0) (bg (fxOf ch) r d) ∧ mx (mx lo 0) (bg (fxOf ch) r d) ≤ 10000000000 := by
      generalize mx lo 0 = u at *
      unfold mx
      split <;> omega
    have e0 : 0 ≤ mn (mn hi (tot (fxOf ch) r)) (bg (fxOf ch) r (d + 1)) ∧ mn (mn hi (tot (fxOf ch) r)) (bg (fxOf ch) r (d + 1)) ≤ 10000000000 := by
      generalize mn hi (tot (fxOf ch) r) = u at *
      unfold mn
      split <;> omega
    refine s_set 11 (d_callB T.max bt_max (da_cons (d_var 6 (da_one (d_ix (d_var 2 (d_var 9 (i_lst g3 (c_max2 ?_)))))))))
    refine s_set 12 (d_callB T.min bt_min (da_cons (d_var 7 (da_one (d_ix (d_var 2 (d_bin (d_var 9 (d_int (o_add (i_lst g4 (c_min2 ?_))))))))))))
    dsimp only
    refine s_ifP (x := decide (mx (mx lo 0) (bg (fxOf ch) r d) < mn (mn hi (tot (fxOf ch) r)) (bg (fxOf ch) r (d + 1)))) (dt_cmp (d_var 11 (d_var 12 (o_lt ⟨rfl, rfl⟩)))) (fun hb3 => ?_) (fun hb3 => ?_)
    · refine s_set 13 (d_call N.place_on (ok_place_on N T) (da_cons (d_var 0 (da_cons (d_var 1 (da_cons (d_var 2 (da_cons (d_var 9 (da_one (d_var 11 (sw_f ⟨hr, rfl, Int.natCast_nonneg _, by dsimp only; rw [Int.toNat_natCast]; omega, s0.1, Int.le_trans s0.2 (by decide)⟩ ?_))))))))))))
      refine s_set 14 (d_call N.place_on (ok_place_on N T) (da_cons (d_var 0 (da_cons (d_var 1 (da_cons (d_var 2 (da_cons (d_var 9 (da_one (d_var 12 (sw_f ⟨hr, rfl, Int.natCast_nonneg _, by dsimp only; rw [Int.toNat_natCast]; omega, e0.1, Int.le_trans e0.2 (by decide)⟩ ?_))))))))))))
      refine s_expr (d_app (ra := rTpv rInt) (d_var 8 ⟨_, _, inferInstance, (d_tpv (ra := rInt) (da_all (d_ix (d_var (ra := rP3) 13 (d_int (i_tup 0 (da_all (d_ix (d_var (ra := rP3) 13 (d_int (i_tup 1 (da_all (d_ix (d_var (ra := rP3) 14 (d_int (i_tup 0 (da_all (d_ix (d_var (ra := rP3) 14 (d_int (i_tup 1 (da_all (d_ix (d_var (ra := rP3) 13 (d_int (i_tup 2 (da_all0 ⟨?_, ⟨_, _, inferInstance, ?_, ?_⟩⟩)))))))))))))))))))))))))))⟩))
      · exact Nat.le_trans (show 5 ≤ 1000 by decide) (by decide)
      · have : 100000 ≤ sizeLine := by decide
        omega
      · refine s_out (s_next (d + 1) ⟨rfl, by omega⟩ ⟨rfl, rfl, rfl, rfl, rfl, rfl, rfl, rfl, rfl, trivial⟩ ?_)
        dsimp only
        rw [segs_snoc]
        unfold seg
        rw [if_pos hb3, Int.toNat_natCast]
        rfl
    · refine s_out (s_next (d + 1) ⟨rfl, by omega⟩ ⟨rfl, rfl, rfl, rfl, rfl, rfl, rfl, rfl, rfl, trivial⟩ ?_)
      rw [segs_snoc, show seg (fxOf ch) r (mx lo 0) (mn hi (tot (fxOf ch) r)) d = [] by unfold seg; rw [if_neg (by rw [hb3]; exact Bool.false_ne_true)], List.append_nil]
  · obtain ⟨rfl, _⟩ := hd
    rw [rgI_len]
    exact s_ret (d_var 8 (rt_done hq5 (hk' rfl)))
end
end Law
set_option Elab.async false
set_option linter.all false
set_option maxRecDepth 100000
set_option maxHeartbeats 4100000
/-! LwG: the law's own names and legs (shared by the laws of charts). -/
namespace Law
open PySem L2 Evl Sk MP
local macro_rules | `(tactic| walk_at "sc") => `(tactic| first | omega | assumption | (with_reducible exact mulOk) | (with_reducible exact smOk) | (with_reducible exact ⟨by decide, smOk⟩) | decide | (simp only [List.length_cons, List.length_nil]; decide) | exact divOk (by omega))
theorem strOk_app (x y : Str) : PyData.strOk (x ++ y) = (PyData.strOk x && PyData.strOk y) := by
  unfold PyData.strOk
  show Array.all (x.cps ++ y.cps) _ = _
  rw [Array.all_append]
theorem letters_ok : ∀ c ∈ ("QXAMBZKCTDRE" : Str).cps.toList, PyData.strOk ⟨#[c]⟩ = true := by decide +kernel
theorem nd_ne {α : Type} {l : List α} (h : l.Nodup) {i j : Nat} {a b : α} (ha : l[i]? = some a) (hb : l[j]? = some b) (hij : i ≠ j) : a ≠ b := by
  have h' := List.pairwise_iff_getElem.mp h
  obtain ⟨hi, ea⟩ := List.getElem?_eq_some_iff.mp ha
  obtain ⟨hj, eb⟩ := List.getElem?_eq_some_iff.mp hb
  rw [← ea, ← eb]
  rcases Nat.lt_or_gt_of_ne hij with z | z
  · exact h' i j hi hj z
  · exact fun e => h' j i hj hi z e.symm
abbrev Ls : List Nat := ("QXAMBZKCTDRE" : Str).cps.toList
theorem ls_inj : ∀ a b : Fin 12, Ls.getD a.1 0 = Ls.getD b.1 0 → a = b := by decide +kernel
/-- the letters of the names -/
def LetAt (n : Int) (d : List Str) : Prop := ∀ (j : Nat) (t : Str), d[j]? = some t → t.cps[0]? = some (Ls.getD (((j : Int) + n) % 12).toNat 0)
theorem LetAt.nodup {n : Int} {d : List Str} (h : LetAt n d) (hl : d.length ≤ 12) : d.Nodup := by
  refine List.pairwise_iff_getElem.mpr fun i j hi hj hij e => ?_
  have h1 := h i _ (List.getElem?_eq_getElem hi)
  have h2 := h j _ (List.getElem?_eq_getElem hj)
  rw [e, h2] at h1
  have m : ∀ x : Int, (x % 12).toNat < 12 := fun x => by omega
  have z := ls_inj ⟨_, m ((j : Int) + n)⟩ ⟨_, m ((i : Int) + n)⟩ (Option.some.inj h1)
  have z' := congrArg Fin.val z
  dsimp only at z'
  omega
theorem LetAt.ne {n : Int} {d : List Str} (h : LetAt n d) : ∀ t ∈ d, t ≠ ("" : Str) := fun t ht e => by
  obtain ⟨j, hj⟩ := List.getElem?_of_mem ht
  have := h j t hj
  rw [e] at this
  cases this
theorem LetAt.snoc {n : Int} {d : List Str} {c : Nat} {s : Str} (h : LetAt n d) (hc : Ls[(((d.length : Int) + n) % 12).toNat]? = some c) : LetAt n (d ++ [⟨#[c]⟩ ++ s]) := fun j t hj => by
  by_cases e : j < d.length
  · rw [List.getElem?_append_left e] at hj
    exact h j t hj
  · have hl := (List.getElem?_eq_some_iff.mp hj).1
    rw [List.length_append] at hl
    have hl : j < d.length + 1 := hl
    have ej : j = d.length := by omega
    subst ej
    rw [List.getElem?_append_right (Nat.le_refl _), Nat.sub_self] at hj
    have et : ⟨#[c]⟩ ++ s = t := Option.some.inj hj
    rw [← et, List.getD_eq_getElem?_getD, hc]
    show (#[c] ++ s.cps)[0]? = some c
    simp [Array.getElem?_append]
section
variable {P : Program} {w : World} {K : PySem.W.Frag} {mg : Str → Option Value} {base : Heap}
abbrev sp_names (K : Fg) : Sp := sp1 K [] (fCons rAdr (fOne rInt)) (fun x => 2 ≤ x.2 ∧ x.2 ≤ 12) (fun x => ⟨x.1, oSt, ()⟩) (rLst rStr) fun x y => y.length = x.2.toNat ∧ (∀ n ∈ y, PyData.strOk n = true) ∧ y.Nodup ∧ ∀ n ∈ y, n ≠ ("" : Str)
theorem sc_names : FnScope ["_law_state", "_law_many", "_law_shift", "_law_names_here", "_law_k", "_law_letter"] ["_law_state", "_law_many"] (defScope s_names) := ⟨rfl, rfl, rfl, by decide +kernel, rfl, by decide +kernel, by decide +kernel⟩
theorem ok_names (N : Nm K mg) (T : Bt mg) : FnOk P w K mg base CX0 3 N.names.f N.names.fd ["_law_state", "_law_many"] (sp_names K) := by
  refine fn_m N.names.F sc_names [] fun cdv A outer s G H E x Q fam hp hk => ?_
  obtain ⟨st, m⟩ := x
  obtain ⟨h2, h12⟩ := hp
  dsimp only at h2 h12
  have hk' : ∀ {Γ : Gm} {d : List Str}, d.length = m.toNat → (∀ n ∈ d, PyData.strOk n = true) ∧ d.Nodup ∧ (∀ n ∈ d, n ≠ ("" : Str)) → RT K ⟨[], _, G, H, []⟩ Γ [⟨st, oSt, ()⟩] (rLst rStr) d _ := fun {Γ d} e e2 => hk ⟨rfl, e, e2⟩
  clear hk
  show DS _ K ⟨[], _, G, H, []⟩ [some ⟨rAdr, st⟩, some ⟨rInt, m⟩, none, none, none, none] [⟨st, oSt, ()⟩] (defBody s_names) _
  refine s_set 2 (d_call N.draw (ok_draw N T) (da_cons (d_var 0 (da_one (d_int (sw_1 ⟨(by walk_at "sc"), (by walk_at "sc")⟩ (fun n hn => ?_)))))))
  obtain ⟨n0, n1⟩ := hn
  dsimp only at n1
  refine s_set 3 (d_lstO (ra := rStr) (da_all0 ⟨(by walk_at "sc"), fun q3 hq3 => ?_⟩))
  refine s_for (js := [4]) (w_rng1 T.range (d_var 1 ⟨(by omega), ?_⟩))
  refine ⟨List Str, fun i d => d.length = i ∧ i ≤ m.toNat ∧ (∀ n ∈ d, PyData.strOk n = true) ∧ LetAt n d, fun _ => [some ⟨rAdr, st⟩, some ⟨rInt, m⟩, some ⟨rInt, n⟩, some ⟨rAdr, q3⟩, none, none], fun d => [⟨q3, oLst rStr, d⟩, ⟨st, oSt, ()⟩], ⟨[], ⟨rfl, Nat.zero_le _, fun n hn => absurd hn List.not_mem_nil, fun j t h => by simp at h⟩, ⟨rfl, rfl, rfl, rfl, trivial⟩, rfl⟩, fun g i x d hx hd => (g_name 4 ?_), fun d hd => ?_⟩
  · obtain ⟨hd1, _, hso, hlet⟩ := hd
    obtain ⟨hlt, ex⟩ := rgI_item hx
    obtain ⟨c, hc, mc, mc2⟩ := atI_lt (xs := ("QXAMBZKCTDRE" : Str).cps.toList) (i := (x + n) % 12) (by omega) (show (x + n) % 12 < 12 by omega)
    refine s_set 5 (d_ix (d_str (d_bin (d_callT T.int bt_int (da_one (d_bin (d_var 4 (d_var 2 (o_add (c_int (d_int (o_mod (by decide) (i_str (by decide) hc ?_)))))))))))))
    refine s_expr (d_app (ra := rStr) (d_var 3 ⟨_, _, inferInstance, (d_bin (d_var 5 (d_call N.pick (ok_pick (ra := rStr) N T) (da_cons (d_var 0 (da_one (d_lst (ra := rStr) (da_all (d_str (da_all (d_str (da_all (d_str (da_all (d_str (da_all (d_str (da_all (d_str (da_all0 ⟨(by walk_at "sc"), (sw_1 ⟨by walk_at "sc", by walk_at "sc"⟩ (fun c2 hc2 => (o_addS ?_ ⟨_, _, inferInstance, ?_, ?_⟩)))⟩))))))))))))))))))))⟩))
    · have hl : c2.length ≤ 4 := by
        dsimp only at hc2
        simp only [List.mem_cons, List.not_mem_nil, or_false] at hc2
        rcases hc2 with rfl | rfl | rfl | rfl | rfl | rfl <;> decide
      have : 100000 ≤ sizeLine := by decide
      show 1 + c2.length ≤ sizeLine
      omega
    · have : 100000 ≤ sizeLine := by decide
      omega
    · have ho : PyData.strOk c2 = true := by
        dsimp only at hc2
        simp only [List.mem_cons, List.not_mem_nil, or_false] at hc2
        rcases hc2 with rfl | rfl | rfl | rfl | rfl | rfl <;> decide +kernel
      refine s_next (d ++ [⟨#[c]⟩ ++ c2]) ⟨by rw [List.length_append, hd1]; rfl, by omega, fun n hn => ?_, hlet.snoc (by rw [hd1, show (i : Int) = x by omega]; exact mc2)⟩ ⟨rfl, rfl, rfl, rfl, trivial⟩ rfl
      rcases List.mem_append.mp hn with z | z
      · exact hso n z
      · rw [List.mem_singleton.mp z, strOk_app, letters_ok c mc, ho]
        rfl
  · obtain ⟨hd1, _, hso, hlet⟩ := hd
    rw [rgI_len] at hd1
    exact s_ret (d_var 3 (rt_done hq3 (hk' hd1 ⟨hso, hlet.nodup (by omega), hlet.ne⟩)))
theorem bt_any : bootBuiltins "any" = some (.builtin "any") := by decide +kernel
structure LegIn (ns : List Str) (ls : List Leg) : Prop where
  s : ∀ l ∈ ls, l.1 ∈ ns
  e : ∀ l ∈ ls, l.2.1 ∈ ns
  o : ∀ l ∈ ls, PyData.strOk l.2.2.1 = true
  n : ∀ l ∈ ls, l.1 ≠ l.2.1
theorem LegIn.nil (ns : List Str) : LegIn ns [] := ⟨fun _ h => absurd h List.not_mem_nil, fun _ h => absurd h List.not_mem_nil, fun _ h => absurd h List.not_mem_nil, fun _ h => absurd h List.not_mem_nil⟩
theorem LegIn.snoc {ns : List Str} {ls : List Leg} {l : Leg} (h : LegIn ns ls) (h1 : l.1 ∈ ns) (h2 : l.2.1 ∈ ns) (h3 : PyData.strOk l.2.2.1 = true) (h4 : l.1 ≠ l.2.1) : LegIn ns (ls ++ [l]) :=
  ⟨fun x hx => by
    rcases List.mem_append.mp hx with z | z
    · exact h.s x z
    · rw [List.mem_singleton.mp z]
      exact h1, fun x hx => by
    rcases List.mem_append.mp hx with z | z
    · exact h.e x z
    · rw [List.mem_singleton.mp z]
      exact h2, fun x hx => by
    rcases List.mem_append.mp hx with z | z
    · exact h.o x z
    · rw [List.mem_singleton.mp z]
      exact h3, fun x hx => by
    rcases List.mem_append.mp hx with z | z
    · exact h.n x z
    · rw [List.mem_singleton.mp z]
      exact h4⟩
abbrev rPr : Rp (Int × Int) := rTup (fCons rInt (fOne rInt))
abbrev sp_legs (K : Fg) : Sp := sp1N K [] (fCons rAdr (fOne (rLst rStr))) (fun x => 2 ≤ x.2.length ∧ x.2.length ≤ 12 ∧ x.2.Nodup) (fun x => ⟨x.1, oSt, ()⟩) (oLst rLeg) fun x y => y.length ≤ 36 ∧ LegIn x.2 y
abbrev N_legs : List Str := ["_law_state", "_law_names_here", "_law_legs_here", "_law_many", "_law_k", "_law_j", "_law_other", "_law_levels", "_law_leg_here"]
theorem sc_legs : FnScope N_legs ["_law_state", "_law_names_here"] (defScope s_legs) := ⟨rfl, rfl, rfl, by decide +kernel, rfl, by decide +kernel, by decide +kernel⟩
theorem ok_legs (N : Nm K mg) (T : Bt mg) : FnOk P w K mg base CX0 3 N.legs.f N.legs.fd ["_law_state", "_law_names_here"] (sp_legs K) := by
  refine fn_m N.legs.F sc_legs [] fun cdv A outer s G H E x Q fam hp hk => ?_
  obtain ⟨st, ns⟩ := x
  obtain ⟨h2, h12, hnd⟩ := hp
  dsimp only at h2 h12 hnd
  have hk' : ∀ {Γ : Gm} {q : Addr} {d : List Leg}, d.length ≤ 36 → LegIn ns d → RT K ⟨[], _, G, H, []⟩ Γ [⟨q, oLst rLeg, d⟩, ⟨st, oSt, ()⟩] rAdr q _ := fun {Γ q d} e1 e2 => hk ⟨d, ⟨e1, e2⟩, rfl⟩
  clear hk
  have z1 : 100000 ≤ sizeLine := by decide
  show DS _ K ⟨[], _, G, H, []⟩ [some ⟨rAdr, st⟩, some ⟨(rLst rStr), ns⟩, none, none, none, none, none, none, none] [⟨st, oSt, ()⟩] (defBody s_legs) _
  refine s_set 2 (d_lstO (ra := rLeg) (da_all0 ⟨(by walk_at "sc"), fun q2 hq2 => ?_⟩))
  refine s_set 3 (d_callB T.len bt_len (da_one (d_var 1 (c_lenL ?_))))
  refine s_for (js := [4]) (w_rng1 T.range (d_var 3 ⟨(by omega), ?_⟩))
  rw [Int.toNat_natCast]
  refine ⟨List Leg, fun i d => d.length ≤ 3 * i ∧ LegIn ns d, fun _ => [some ⟨rAdr, st⟩, some ⟨(rLst rStr), ns⟩, some ⟨rAdr, q2⟩, some ⟨rInt, (ns.length : Int)⟩, none, none, none, none, none], fun d => [⟨q2, oLst rLeg, d⟩, ⟨st, oSt, ()⟩], ⟨[], ⟨Nat.le_refl _, LegIn.nil ns⟩, ⟨rfl, rfl, rfl, rfl, trivial⟩, rfl⟩, fun g i x d hx hd => (g_name 4 ?_), fun d hd => ?_⟩
  · obtain ⟨hd1, hd2⟩ := hd
    obtain ⟨hlt, ex⟩ := rgI_item hx
    have ex : x = (i : Int) := by omega
    subst ex
    obtain ⟨nk, gk, mk, gk2⟩ := atI_lt (xs := ns) (i := (i : Int)) (by omega) (by omega)
    refine s_for (js := [5]) (w_rng1 T.range (d_call N.pick (ok_pick (ra := rInt) N T) (da_cons (d_var 0 (da_one (d_lst (ra := rInt) (da_all (d_int (da_all (d_int (da_all (d_int (da_all (d_int (da_all (d_int (da_all0 ⟨(by walk_at "sc"), (sw_1 ⟨by walk_at "sc", by walk_at "sc"⟩ (fun c hc => ⟨?_, ?_⟩))⟩)))))))))))))))))
    · dsimp only at hc
      simp only [List.mem_cons, List.not_mem_nil, or_false] at hc
      rcases hc with rfl | rfl | rfl | rfl | rfl <;> decide
    have hc3 : c.toNat ≤ 3 := by
      dsimp only at hc
      simp only [List.mem_cons, List.not_mem_nil, or_false] at hc
      rcases hc with rfl | rfl | rfl | rfl | rfl <;> decide
    refine ⟨List Leg, fun j d => d.length ≤ 3 * i + j ∧ LegIn ns d, fun _ => [some ⟨rAdr, st⟩, some ⟨(rLst rStr), ns⟩, some ⟨rAdr, q2⟩, some ⟨rInt, (ns.length : Int)⟩, some ⟨rInt, (i : Int)⟩, none, none, none, none], fun d => [⟨q2, oLst rLeg, d⟩, ⟨st, oSt, ()⟩], ⟨d, ⟨hd1, hd2⟩, ⟨rfl, rfl, rfl, rfl, rfl, trivial⟩, rfl⟩, fun g2 j x2 d2 hx2 hdd => (g_name 5 ?_), fun d2 hdd => ?_⟩
    · obtain ⟨hd3, hd4⟩ := hdd
      obtain ⟨hlt2, _⟩ := rgI_item hx2
      have bk : Bd 10 ((ns.length : Int) - 1) := Bd.of (by omega) (by omega)
      have hlen : d2.length ≤ sizeLine := by omega
      refine s_set 6 (d_ix (d_var 1 (d_bin (d_callT T.int bt_int (da_one (d_bin (d_bin (d_var 4 (d_int (o_add (d_call N.draw (ok_draw N T) (da_cons (d_var 0 (da_one (d_bin (d_var 3 (d_int (o_sub (sw_1 ⟨by omega, (by walk_at "sc")⟩ (fun n hn => (o_add (c_int (d_var 3 (o_mod (by omega) (i_lst (x := ns.getD (((i : Int) + 1 + n) % (ns.length : Int)).toNat Str.empty) (atI_getD _ (Int.emod_nonneg _ (by omega)) (Int.emod_lt_of_pos _ (by omega))) ?_)))))))))))))))))))))))))
      have mo : ns.getD (((i : Int) + 1 + n) % (ns.length : Int)).toNat Str.empty ∈ ns := by
        have hl : (((i : Int) + 1 + n) % (ns.length : Int)).toNat < ns.length := by
          have := Int.emod_nonneg ((i : Int) + 1 + n) (show (ns.length : Int) ≠ 0 by omega)
          have := Int.emod_lt_of_pos ((i : Int) + 1 + n) (show (0 : Int) < ns.length by omega)
          omega
        rw [List.getD_eq_getElem?_getD, List.getElem?_eq_getElem hl]
        exact List.getElem_mem hl
      have hne : nk ≠ ns.getD (((i : Int) + 1 + n) % (ns.length : Int)).toNat Str.empty := by
        obtain ⟨n0, n1⟩ := hn
        dsimp only at n1
        have q1 := Int.emod_nonneg ((i : Int) + 1 + n) (show (ns.length : Int) ≠ 0 by omega)
        have q2 := Int.emod_lt_of_pos ((i : Int) + 1 + n) (show (0 : Int) < ns.length by omega)
        have hl : (((i : Int) + 1 + n) % (ns.length : Int)).toNat < ns.length := by omega
        have q3 : ((i : Int) + 1 + n) % (ns.length : Int) ≠ (i : Int) := by
          rcases Int.lt_or_le ((i : Int) + 1 + n) ns.length with z | z
          · rw [Int.emod_eq_of_lt (by omega) z]
            omega
          · rw [show (i : Int) + 1 + n = ((i : Int) + 1 + n - ns.length) + ns.length by omega, Int.add_emod_right, Int.emod_eq_of_lt (by omega) (by omega)]
            omega
        refine nd_ne hnd gk2 (by rw [List.getD_eq_getElem?_getD, List.getElem?_eq_getElem hl]; rfl) ?_
        omega
      generalize ns.getD (((i : Int) + 1 + n) % (ns.length : Int)).toNat Str.empty = ot at mo hne
      refine s_ifP (dt_notP (dt_val (d_callB T.any bt_any (da_one (d_lcPw (js := [8]) (ra := rLeg) (rb := rBool) (f := fun l : Leg => decide (l.1 = nk) && decide (l.2.1 = ot)) [("_law_leg_here", 8)] [8] (fun _ => blkOk_by (N := N_legs) (sc := defScope s_legs) (by decide +kernel)) (w_own (d_var 2 ⟨_, _, inferInstance, ⟨rfl, hlen, fun gg D ys x hx => (g_name 8 (d_andP (d_cmp (d_ix (d_var (ra := rLeg) (x := x) 8 (d_int (i_tup 0 (d_ix (d_var 1 (d_var 4 (i_lst gk (o_eqS ⟨rfl, rfl⟩)))))))))) (fun hb => (d_one (d_cmp (d_ix (d_var (ra := rLeg) (x := x) 8 (d_int (i_tup 1 (d_var 6 (o_eqS ⟨rfl, rfl⟩))))))))))), (c_anyG ⟨rfl, rfl⟩)⟩⟩))))))) (fun hb => ?_) (fun hb => ?_)
      · refine s_set 7 (d_call N.pick (ok_pick (ra := rPr) N T) (da_cons (d_var 0 (da_one (d_lst (ra := rPr) (da_all (d_tup (da_cons (d_int (da_one (d_int (da_all (d_tup (da_cons (d_int (da_one (d_int (da_all (d_tup (da_cons (d_int (da_one (d_int (da_all (d_tup (da_cons (d_int (da_one (d_int (da_all (d_tup (da_cons (d_int (da_one (d_int (da_all0 ⟨(by walk_at "sc"), (sw_1 ⟨by walk_at "sc", by walk_at "sc"⟩ (fun c5 hc5 => ?_))⟩))))))))))))))))))))))))))))))))))))
        refine s_expr (d_app (ra := rLeg) (d_var 2 ⟨_, _, inferInstance, (d_tup (da_cons (d_ix (d_var 1 (d_var 4 (i_lst gk (da_cons (d_var 6 (da_cons (d_call N.pick (ok_pick (ra := rStr) N T) (da_cons (d_var 0 (da_one (d_lst (ra := rStr) (da_all (d_str (da_all (d_str (da_all (d_str (da_all0 ⟨(by walk_at "sc"), (sw_1 ⟨by walk_at "sc", by walk_at "sc"⟩ (fun c6 hc6 => (da_cons (d_ix (d_var 7 (d_int (i_tup 0 (da_one (d_ix (d_var 7 (d_int (i_tup 1 ⟨_, _, inferInstance, ?_, ?_⟩))))))))))))⟩)))))))))))))))))))))⟩))
        · omega
        · have ho : PyData.strOk c6 = true := by
            dsimp only at hc6
            simp only [List.mem_cons, List.not_mem_nil, or_false] at hc6
            rcases hc6 with rfl | rfl | rfl <;> decide +kernel
          refine s_out (s_next (d2 ++ [(nk, ot, c6, c5.1, c5.2)]) ⟨?_, hd4.snoc mk mo ho hne⟩ ⟨rfl, rfl, rfl, rfl, rfl, trivial⟩ rfl)
          rw [List.length_append]
          show d2.length + 1 ≤ _
          omega
      · exact s_out (s_next d2 ⟨by omega, hd4⟩ ⟨rfl, rfl, rfl, rfl, rfl, trivial⟩ rfl)
    · obtain ⟨hd3, hd4⟩ := hdd
      rw [rgI_len] at hd3
      exact s_next d2 ⟨by omega, hd4⟩ ⟨rfl, rfl, rfl, rfl, trivial⟩ rfl
  · obtain ⟨hd1, hd2⟩ := hd
    rw [rgI_len] at hd1
    exact s_ret (d_var 2 (hk' (by omega) hd2))
end
end Law
set_option Elab.async false
set_option linter.all false
set_option maxRecDepth 100000
set_option maxHeartbeats 4100000
/-! LwH: the law's own chart (shared by the laws of charts). -/
namespace Law
open PySem L2 Evl Sk MP
local macro_rules | `(tactic| walk_at "sc") => `(tactic| first | omega | assumption | (with_reducible exact mulOk) | (with_reducible exact smOk) | (with_reducible exact ⟨by decide, smOk⟩) | decide | (simp only [List.length_cons, List.length_nil]; decide) | exact divOk (by omega))
/-- a test whose answer does not matter -/
theorem dt_all {ι : Type} {F : ι → Cx} {K : PySem.W.Frag} {B : Bs} {Γ : Gm} {O : List Own} {e : Expr} {Φ : Bool → List Own → Prop} (h : DT F K B Γ O e fun _ O' => O' = O) (k : ∀ b, Φ b O) : DT F K B Γ O e Φ := dt_mono h fun b O' e1 => by
  subst e1
  exact k b
theorem ptb {m y k : Int} (h2 : 2 ≤ m) (h12 : m ≤ 12) (y0 : -20000 ≤ y) (y1 : y ≤ 20000) (k0 : 0 ≤ k) (k1 : k ≤ 12) : -1000000 ≤ m * y + k ∧ m * y + k ≤ 1000000 := by
  have : m = 2 ∨ m = 3 ∨ m = 4 ∨ m = 5 ∨ m = 6 ∨ m = 7 ∨ m = 8 ∨ m = 9 ∨ m = 10 ∨ m = 11 ∨ m = 12 := by omega
  rcases this with rfl | rfl | rfl | rfl | rfl | rfl | rfl | rfl | rfl | rfl | rfl <;> omega
theorem ln_pos {p q : Pt} (h : p.2 ≠ q.2) : 1 ≤ sqrU (d2 p q) := by
  have h1 := sq_nn (q.1 - p.1)
  have h2 := sq_pos (show q.2 - p.2 ≠ 0 by omega)
  obtain ⟨u0, u1, _⟩ := up_ok (d2_nn p q)
  rcases Int.lt_or_le (sqrU (d2 p q)) 1 with z | z
  · have e : sqrU (d2 p q) = 0 := by omega
    rw [e] at u1
    unfold d2 at u1
    omega
  · exact z
/-- the first names have their points -/
def FxAt (m : Int) (fx : Fx) (ns : List Str) (i : Nat) : Prop := ∀ (k : Nat) (n : Str), k < i → ns[k]? = some n → ∃ p, valX fx (Sum.inr n) = some p ∧ PtOk p ∧ p.2 % m = (k : Int)
theorem FxAt.put {m : Int} {fx : Fx} {ns : List Str} {i : Nat} {n : Str} {p : Pt} (h : FxAt m fx ns i) (hnd : ns.Nodup) (hn : ns[i]? = some n) (hp : PtOk p) (hm : p.2 % m = (i : Int)) : FxAt m (putX fx (Sum.inr n) p) ns (i + 1) := fun k t hk ht => by
  rw [valX_put]
  by_cases e : k = i
  · subst e
    rw [hn] at ht
    have et : n = t := Option.some.inj ht
    rw [if_pos (by rw [et])]
    exact ⟨p, rfl, hp, hm⟩
  · rw [if_neg fun z => nd_ne hnd ht hn e (Sum.inr.inj z)]
    exact h k t (by omega) ht
/-- a chart of the law, by its names -/
structure ChQ (c : ChV) (m : Int) (ns : List Str) : Prop where
  l2 : 2 ≤ ns.length
  l12 : ns.length ≤ 12
  nd : ns.Nodup
  so : ∀ n ∈ ns, PyData.strOk n = true
  ne : ∀ n ∈ ns, n ≠ ("" : Str)
  ky : (fxOf c).map (·.1) = ns.map Sum.inr
  fx : FxAt m (fxOf c) ns ns.length
  li : LegIn ns (lgOf c)
  ll : (lgOf c).length ≤ 100
theorem ChQ.pt {c : ChV} {m : Int} {ns : List Str} (h : ChQ c m ns) {n : Str} (hn : n ∈ ns) : ∃ p, valX (fxOf c) (Sum.inr n) = some p ∧ PtOk p := by
  obtain ⟨a, ha⟩ := List.getElem?_of_mem hn
  obtain ⟨p, p1, p2, _⟩ := h.fx a _ (List.getElem?_eq_some_iff.mp ha).1 ha
  exact ⟨p, p1, p2⟩
theorem ChQ.ap {c : ChV} {m : Int} {ns : List Str} (h : ChQ c m ns) {x y : Str} (hx : x ∈ ns) (hy : y ∈ ns) (hne : x ≠ y) : 1 ≤ ln (fxOf c) x y := by
  obtain ⟨a, ha⟩ := List.getElem?_of_mem hx
  obtain ⟨b, hb⟩ := List.getElem?_of_mem hy
  obtain ⟨p, p1, _, p3⟩ := h.fx a _ (List.getElem?_eq_some_iff.mp ha).1 ha
  obtain ⟨p', p1', _, p3'⟩ := h.fx b _ (List.getElem?_eq_some_iff.mp hb).1 hb
  have hab : a ≠ b := fun e => hne (by
    subst e
    rw [ha] at hb
    exact Option.some.inj hb)
  unfold ln
  rw [pt_of p1, pt_of p1']
  refine ln_pos fun e => hab ?_
  rw [e] at p3
  omega
theorem ChQ.ok {c : ChV} {m : Int} {ns : List Str} (h : ChQ c m ns) : ChOk c where
  len := Nat.le_trans h.ll (by decide)
  pts := fun l hl => ⟨h.pt (h.li.s l hl), h.pt (h.li.e l hl)⟩
  so := fun l hl => ⟨h.so _ (h.li.s l hl), h.so _ (h.li.e l hl), h.li.o l hl⟩
  ap := fun l hl => h.ap (h.li.s l hl) (h.li.e l hl) (h.li.n l hl)
theorem putX_key {κ α : Type} [DecidableEq κ] {xs : List (κ × α)} {k : κ} {x : α} (h : k ∉ xs.map (·.1)) : (putX xs k x).map (·.1) = xs.map (·.1) ++ [k] := by
  unfold putX
  rw [if_neg, List.map_append]
  · rfl
  · intro z
    obtain ⟨u, hu, e⟩ := List.any_eq_true.mp z
    exact h (List.mem_map.mpr ⟨u, hu, of_decide_eq_true e⟩)
section
variable {P : Program} {w : World} {K : PySem.W.Frag} {mg : Str → Option Value} {base : Heap}
abbrev chOwn (c : ChV) (q ql qh : Addr) : List Own := [⟨q, oRec chN chFO, chO c ql qh⟩, ⟨ql, oLst rLeg, lgOf c⟩, ⟨qh, oLst rHour, hrOf c⟩]
abbrev sp_chart (K : Fg) : Sp := spM K [] (fCons rAdr (fCons rInt (fOne rInt))) (fun x => (2 ≤ x.2.1 ∧ x.2.1 ≤ 12) ∧ 0 ≤ x.2.2 ∧ x.2.2 ≤ 20000) (fun x => [⟨x.1, oSt, ()⟩]) rAdr fun x q O' => ∃ c ns ql qh, (ChQ c x.2.1 ns ∧ hrOf c = []) ∧ O' = chOwn c q ql qh ++ [⟨x.1, oSt, ()⟩]
/-- it is asked -/
theorem sw_chart {B : Bs} {Γ : Gm} {O : List Own} {x : Addr × Int × Int} {f : Own → List Own} {Φ : Addr → List Own → Prop} [ho : OwnAt O x.1 oSt () f] (hp : (2 ≤ x.2.1 ∧ x.2.1 ≤ 12) ∧ 0 ≤ x.2.2 ∧ x.2.2 ≤ 20000)
    (h : ∀ q c ns ql qh, ChQ c x.2.1 ns → hrOf c = [] → q ∉ B.M → ql ∉ B.M → qh ∉ B.M → Φ q (⟨q, oRec chN chFO, chO c ql qh⟩ :: ⟨ql, oLst rLeg, lgOf c⟩ :: ⟨qh, oLst rHour, hrOf c⟩ :: O)) : SW K B Γ O (sp_chart K) [] (fCons rAdr (fCons rInt (fOne rInt))) x rAdr Φ :=
  sw_gF (ho := ho) (own := fun x : Addr × Int × Int => ⟨x.1, oSt, ()⟩) hp (fun q O' ⟨c, ns, ql, qh, ⟨h1, h2⟩, e⟩ => ⟨chOwn c q ql qh, e, fun hf => h q c ns ql qh h1 h2 (hf ⟨q, _, _⟩ List.mem_cons_self) (hf ⟨ql, _, _⟩ (List.mem_cons_of_mem _ List.mem_cons_self)) (hf ⟨qh, _, _⟩ (List.mem_cons_of_mem _ (List.mem_cons_of_mem _ List.mem_cons_self)))⟩) rfl (fun _ h => by cases h)
/-- a chart of one's own is done -/
theorem s_chDone {X : Cx} {B : Bs} {Γ : Gm} {O : List Own} {D : L2.Ends} {rest : List Stmt} (j : Nat) {c : ChV} {q ql qh : Addr} {f : Option Slot → Gm} [hA : At Γ j rAdr q] [hg : SetG Γ j f] (hq : q ∉ B.M) (hl : ql ∉ B.M) (hh : qh ∉ B.M)
    (h : DS X K B (f (some ⟨rChart, c⟩)) O rest D) : DS X K B Γ (⟨q, oRec chN chFO, chO c ql qh⟩ :: ⟨ql, oLst rLeg, lgOf c⟩ :: ⟨qh, oLst rHour, hrOf c⟩ :: O) rest D := by
  obtain ⟨⟨⟨fx, lg, zo, rw_, ho⟩, hr⟩, cp⟩ := c
  refine s_perm (O' := ⟨ql, oLst rLeg, lg⟩ :: ⟨qh, oLst rHour, hr⟩ :: ⟨q, oRec chN chFO, (((fx, ql, zo, rw_, ho), qh), cp)⟩ :: O) ?_ ?_
  · show List.Perm (α := Own) _ (⟨q, oRec chN chFO, (((fx, ql, zo, rw_, ho), qh), cp)⟩ :: ⟨ql, oLst rLeg, lg⟩ :: ⟨qh, oLst rHour, hr⟩ :: O)
    exact ((List.Perm.cons _ (List.Perm.swap _ _ _)).trans (List.Perm.swap _ _ _))
  refine s_frzIn (p := q) (wo' := oRec chN (fApp (fApp (fCons (rDk rPt) (fCons (rLst rLeg) (fCons (rLst rInt) (fCons (rLst rStr) (fOne (rDk rStr)))))) rAdr) (rDk rInt))) (x' := (((fx, lg, zo, rw_, ho), qh), cp)) hl inferInstance (fun hv ⟨vs, e1, ws, v, e2, ⟨ws2, v2, e3, ⟨u1, us1, e4, r1, u2, us2, e5, r2, r3⟩, hv2⟩, hv3⟩ => ⟨vs, e1, ws, v, e2, ⟨ws2, v2, e3, ⟨u1, us1, e4, r1, u2, us2, e5, ?_, r3⟩, hv2⟩, hv3⟩) ?_
  · rw [show u2 = V.ref ql from r2]
    exact hv
  refine s_frzIn (p := q) (wo' := oRec chN chF) (x' := (((fx, lg, zo, rw_, ho), hr), cp)) hh inferInstance (fun hv ⟨vs, e1, ws, v, e2, ⟨ws2, v2, e3, hf, hv2⟩, hv3⟩ => ⟨vs, e1, ws, v, e2, ⟨ws2, v2, e3, hf, ?_⟩, hv3⟩) ?_
  · rw [show v2 = V.ref qh from hv2]
    exact hv
  exact s_done j hq h
abbrev N_chart : List Str := ["_law_state", "_law_many", "_law_size", "_law_names_here", "_law_fixes", "_law_k", "_law_legs_here", "_law_holds", "_law_leg_here", "_law_runways", "_law_chart_here", "_law_back", "_law_name", "_law_other"]
theorem sc_chart : FnScope N_chart ["_law_state", "_law_many", "_law_size"] (defScope s_chart) := ⟨rfl, rfl, rfl, by decide +kernel, rfl, by decide +kernel, by decide +kernel⟩
theorem ok_chart (N : Nm K mg) (T : Bt mg) : FnOk P w K mg base CX0 4 N.chart.f N.chart.fd ["_law_state", "_law_many", "_law_size"] (sp_chart K) := by
  refine fn_m N.chart.F sc_chart [] fun cdv A outer s G H E x Q fam hp hk => ?_
  obtain ⟨st, m, sz⟩ := x
  obtain ⟨⟨h2, h12⟩, s0, s1⟩ := hp
  dsimp only at h2 h12 s0 s1
  have hk' : ∀ {Γ : Gm} {c : ChV} {ns : List Str} {q ql qh : Addr}, ChQ c m ns → hrOf c = [] → RT K ⟨[], _, G, H, []⟩ Γ (chOwn c q ql qh ++ [⟨st, oSt, ()⟩]) rAdr q _ := fun {Γ c ns q ql qh} e e2 => hk ⟨c, ns, ql, qh, ⟨e, e2⟩, rfl⟩
  clear hk
  have z1 : 100000 ≤ sizeLine := by decide
  have bs : Bd 20 sz := Bd.of (by omega) (by omega)
  have bm : Bd 20 m := Bd.of (by omega) (by omega)
  show DS _ K ⟨[], _, G, H, []⟩ [some ⟨rAdr, st⟩, some ⟨rInt, m⟩, some ⟨rInt, sz⟩, none, none, none, none, none, none, none, none, none, none, none] [⟨st, oSt, ()⟩] (defBody s_chart) _
  refine s_set 3 (d_call N.names (ok_names N T) (da_cons (d_var 0 (da_one (d_var 1 (sw_1 ⟨h2, h12⟩ (fun ns hns => ?_)))))))
  obtain ⟨hns', hso, hnd, hne⟩ := hns
  have hns' : ns.length = m.toNat := hns'
  refine s_set 4 (d_dnewK rPt (fun q4 hq4 => ?_))
  refine s_for (js := [5]) (w_rng1 T.range (d_var 1 ⟨(by omega), ?_⟩))
  refine ⟨Fx, fun i d => i ≤ 12 ∧ d.map (·.1) = (ns.take i).map Sum.inr ∧ FxAt m d ns i, fun _ => [some ⟨rAdr, st⟩, some ⟨rInt, m⟩, some ⟨rInt, sz⟩, some ⟨rLst rStr, ns⟩, some ⟨rAdr, q4⟩, none, none, none, none, none, none, none, none, none], fun d => [⟨q4, oDk rPt, d⟩, ⟨st, oSt, ()⟩], ⟨[], ⟨Nat.zero_le _, rfl, fun k n hk => absurd hk (Nat.not_lt_zero _)⟩, ⟨rfl, rfl, rfl, rfl, rfl, trivial⟩, rfl⟩, fun g i x d hx hd => (g_name 5 ?_), fun d hd => ?_⟩
  · obtain ⟨hi, hd1, hd2⟩ := hd
    obtain ⟨hlt, ex⟩ := rgI_item hx
    have ex : x = (i : Int) := by omega
    subst ex
    have hn := List.getElem?_eq_getElem (l := ns) (i := i) (by omega)
    generalize ns[i] = nk at hn
    have gk := atI_nat' hn
    have bn : ∀ n : Int, 0 ≤ n → n < 2 * sz + 1 → Bd 30 (n - sz) := fun n a b => Bd.of (by omega) (by omega)
    refine s_dput (rc := rPt) (d_tup (da_cons (d_bin (d_call N.draw (ok_draw N T) (da_cons (d_var 0 (da_one (d_bin (d_bin (d_int (d_var 2 (o_mul (by walk_at "sc") (d_int (o_add (sw_1 ⟨by omega, smOk⟩ (fun n1 hn1 => (d_var 2 (o_sub (da_one (d_bin (d_bin (d_var 1 (d_bin (d_call N.draw (ok_draw N T) (da_cons (d_var 0 (da_one (d_bin (d_bin (d_int (d_var 2 (o_mul (by walk_at "sc") (d_int (o_add (sw_1 ⟨by omega, smOk⟩ (fun n2 hn2 => (d_var 2 (o_sub (o_mul (by have b2 := bn n2 hn2.1 hn2.2; exact mulOk) (d_var 5 (o_add (d_var 4 (d_keyS (d_ix (d_var 3 (d_var 5 (i_lst gk ⟨_, _, inferInstance, ?_, ?_⟩)))))))))))))))))))))))))))))))))))))))))))))))
    · have e : d.length = (d.map (·.1)).length := by rw [List.length_map]
      rw [e, hd1, List.length_map, List.length_take]
      omega
    obtain ⟨a0, a1⟩ := hn1
    obtain ⟨b0, b1⟩ := hn2
    dsimp only at a1 b1
    obtain ⟨c0, c1⟩ := ptb h2 h12 (y := n2 - sz) (k := (i : Int)) (by omega) (by omega) (by omega) (by omega)
    refine s_next (putX d (Sum.inr nk) (n1 - sz, m * (n2 - sz) + (i : Int))) ⟨by omega, ?_, ?_⟩ ⟨rfl, rfl, rfl, rfl, rfl, trivial⟩ rfl
    · rw [putX_key, hd1, take_snoc hn, List.map_append]
      · rfl
      · rw [hd1]
        intro z
        obtain ⟨t, ht, et⟩ := List.mem_map.mp z
        have et : t = nk := Sum.inr.inj et
        obtain ⟨j, hj⟩ := List.getElem?_of_mem ht
        have hj2 : j < i := by
          have := (List.getElem?_eq_some_iff.mp hj).1
          rw [List.length_take] at this
          omega
        rw [List.getElem?_take_of_lt hj2] at hj
        exact nd_ne hnd hj hn (by omega) et
    exact hd2.put hnd hn ⟨by dsimp only; omega, by dsimp only; omega, c0, c1⟩ (by
      dsimp only
      rw [Int.add_comm, Int.add_mul_emod_self_left, Int.emod_eq_of_lt (by omega) (by omega)])
  obtain ⟨_, hky, hfx⟩ := hd
  rw [rgI_len, ← hns'] at hfx hky
  rw [List.take_length] at hky
  generalize d = fx at hfx hky
  refine s_set 6 (d_call N.legs (ok_legs N T) (da_cons (d_var 0 (da_one (d_var 3 (sw_1NF ⟨by dsimp only; omega, by dsimp only; omega, hnd⟩ (fun ql lg hlg hql => ?_)))))))
  obtain ⟨hl36, hli⟩ := hlg
  dsimp only at hli
  refine s_set 7 (d_dnewK rStr (fun q7 hq7 => ?_))
  refine s_forO (js := [8]) (w_own (ra := rLeg) (d_var 6 ⟨_, _, inferInstance, ?_⟩))
  refine ⟨List (Key × Str), fun i d => i ≤ lg.length ∧ d.length ≤ i, fun _ => [some ⟨rAdr, st⟩, some ⟨rInt, m⟩, some ⟨rInt, sz⟩, some ⟨rLst rStr, ns⟩, some ⟨rAdr, q4⟩, none, some ⟨rAdr, ql⟩, some ⟨rAdr, q7⟩, none, none, none, none, none, none], fun d => [⟨q7, oDk rStr, d⟩, ⟨ql, oLst rLeg, lg⟩, ⟨q4, oDk rPt, fx⟩, ⟨st, oSt, ()⟩], ⟨[], ⟨Nat.zero_le _, Nat.le_refl _⟩, ⟨rfl, rfl, rfl, rfl, rfl, rfl, rfl, trivial⟩, rfl⟩, fun _ _ _ => List.mem_cons_of_mem _ List.mem_cons_self, fun g i l d hx hd => (g_name 8 ?_), fun d hd => ?_⟩
  · obtain ⟨hi, hd1⟩ := hd
    have hlt := (List.getElem?_eq_some_iff.mp hx).1
    refine s_lcFw 11 (js := [13]) (ra := rLeg) (rb := rLeg) (f := fun l : Leg => l) (g := fun o : Leg => decide (o.1 = l.2.1) && decide (o.2.1 = l.1)) [("_law_other", 13)] [13] (fun _ => blkOk_by (N := N_chart) (sc := defScope s_chart) (by decide +kernel)) (w_own (d_var 6 ⟨_, _, inferInstance, rfl, (by omega), fun gg D ys x hx => (g_name 13 (dts_one (dt_then (dt_bool (dp_andP (dt_cmp (d_ix (d_var (ra := rLeg) (x := x) 13 (d_int (i_tup 0 (d_ix (d_var (ra := rLeg) (x := l) 8 (d_int (i_tup 1 (o_eqS ⟨rfl, rfl⟩)))))))))) (fun hb => (dp_and1 (dt_cmp (d_ix (d_var (ra := rLeg) (x := x) 13 (d_int (i_tup 1 (d_ix (d_var (ra := rLeg) (x := l) 8 (d_int (i_tup 0 (o_eqS ⟨rfl, rfl⟩)))))))))))))) ⟨rfl, rfl, fun hb => (d_var 13 ⟨rfl, rfl⟩)⟩))), ?_⟩))
    refine s_if (dt_all (dt_bool (dp_and (dt_cmp (d_callB T.len bt_len (da_one (d_var 11 (c_lenL (d_int (o_gt ⟨fun hb => (dp_and1 (dt_cmp (d_call N.draw (ok_draw N T) (da_cons (d_var 0 (da_one (d_int (sw_1 ⟨(by walk_at "sc"), (by walk_at "sc")⟩ (fun n hn => (d_int (o_eqI rfl))))))))))) , fun _ => rfl⟩))))))))) (fun b => ⟨fun hb => ?_, fun hb => ?_⟩))
    · refine s_dput (rc := rStr) (d_ix (d_var (ra := rLeg) (x := l) 8 (d_int (i_tup 1 (d_var 7 (d_keyS (d_ix (d_var (ra := rLeg) (x := l) 8 (d_int (i_tup 0 ⟨_, _, inferInstance, ?_, ?_⟩))))))))))
      · omega
      exact s_out (s_next (putX d (Sum.inr l.1) l.2.1) ⟨by omega, Nat.le_trans (putX_len _ _ _) (by omega)⟩ ⟨rfl, rfl, rfl, rfl, rfl, rfl, rfl, trivial⟩ rfl)
    · exact s_out (s_next d ⟨by omega, by omega⟩ ⟨rfl, rfl, rfl, rfl, rfl, rfl, rfl, trivial⟩ rfl)
  generalize d = hs
  refine s_lcO 9 (js := [12]) (ra := rStr) (rb := rStr) [("_law_name", 12)] [12] (fun _ => blkOk_by (N := N_chart) (sc := defScope s_chart) (by decide +kernel)) (w_lst (d_var 3 ⟨Unit, fun i ys _ => ys.length ≤ i, fun _ => [⟨q7, oDk rStr, hs⟩, ⟨ql, oLst rLeg, lg⟩, ⟨q4, oDk rPt, fx⟩, ⟨st, oSt, ()⟩], ⟨(), Nat.le_refl _, rfl⟩, fun g D i x ys d hx hd => (g_name 12 (dts_one (dt_cmp (d_call N.draw (ok_draw N T) (da_cons (d_var 0 (da_one (d_int (sw_1 ⟨(by walk_at "sc"), (by walk_at "sc")⟩ (fun n hn => (d_int (o_eqI ⟨fun hb => (d_var 12 ⟨(), rfl, ?_, ?_⟩), fun hb => ⟨(), rfl, ?_⟩⟩)))))))))))), fun q9 ys d hM hd2 => ?_⟩))
  · have := (List.getElem?_eq_some_iff.mp hx).1
    omega
  · show (ys ++ [x]).length ≤ i + 1
    rw [List.length_append]
    exact Nat.succ_le_succ hd
  · exact Nat.le_succ_of_le hd
  refine s_perm (O' := [⟨q4, oDk rPt, fx⟩, ⟨q7, oDk rStr, hs⟩, ⟨q9, oLst rStr, ys⟩, ⟨ql, oLst rLeg, lg⟩, ⟨st, oSt, ()⟩]) ?_ ?_
  · show List.Perm (α := Own) _ ([⟨q9, oLst rStr, ys⟩, ⟨q7, oDk rStr, hs⟩, ⟨ql, oLst rLeg, lg⟩] ++ ⟨q4, oDk rPt, fx⟩ :: [⟨st, oSt, ()⟩])
    exact (List.perm_middle.trans (List.Perm.cons _ (List.Perm.swap _ _ _))).symm
  refine s_done 4 hq4 ?_
  refine s_done 7 hq7 ?_
  refine s_set 10 (d_disp (ns := chN5) (f := chFO5) chN5_nd (fun i => pps_cons pe_str (WE.pe i) (pps_cons pe_str (WE.pe i) (pps_cons pe_str (WE.pe i) (pps_cons pe_str (WE.pe i) (pps_cons pe_str (WE.pe i) pps_nil))))) fun q hq => dd_cons (d_var 4 (dd_cons (d_var 6 (dd_cons (d_lst (ra := rInt) (da_all0 ⟨(by decide), dd_cons (d_slice (d_var 9 (do_no (do_at (d_int (sl_l (rb := rStr) (dd_one (d_var 7 ⟨_, rfl, ?_⟩))))))))⟩)))))))
  refine s_recNew (rc := rAdr) (d_lstO (ra := rHour) (da_all0 ⟨(by decide), fun qh hqh => d_var 10 ⟨_, _, inferInstance, ?_⟩⟩))
  refine s_recNew (rc := rDk rInt) (d_done (d_dnewK rInt (fun p hp => ⟨_, _, rfl, hp, d_var 10 ⟨_, _, inferInstance, ?_⟩⟩)))
  have hq' : ChQ ((((fx, lg, [], cutL ys none (some 4), hs), []), []) : ChV) m ns := ⟨by omega, by omega, hnd, hso, hne, hky, hfx, hli, by show lg.length ≤ 100; omega⟩
  refine s_perm (O' := [⟨q9, oLst rStr, ys⟩, ⟨q, oRec chN chFO, chO ((((fx, lg, [], cutL ys none (some 4), hs), []), []) : ChV) ql qh⟩, ⟨ql, oLst rLeg, lg⟩, ⟨qh, oLst rHour, []⟩, ⟨st, oSt, ()⟩]) ?_ ?_
  · show List.Perm (α := Own) _ (⟨qh, oLst rHour, []⟩ :: ⟨q, oRec chN chFO, chO ((((fx, lg, [], cutL ys none (some 4), hs), []), []) : ChV) ql qh⟩ :: ⟨q9, oLst rStr, ys⟩ :: ⟨ql, oLst rLeg, lg⟩ :: [⟨st, oSt, ()⟩])
    have p1 : List.Perm (α := Own) (⟨qh, oLst rHour, []⟩ :: ([⟨q, oRec chN chFO, chO ((((fx, lg, [], cutL ys none (some 4), hs), []), []) : ChV) ql qh⟩, ⟨q9, oLst rStr, ys⟩, ⟨ql, oLst rLeg, lg⟩] ++ [⟨st, oSt, ()⟩])) ([⟨q, oRec chN chFO, chO ((((fx, lg, [], cutL ys none (some 4), hs), []), []) : ChV) ql qh⟩, ⟨q9, oLst rStr, ys⟩, ⟨ql, oLst rLeg, lg⟩] ++ ⟨qh, oLst rHour, []⟩ :: [⟨st, oSt, ()⟩]) := List.perm_middle.symm
    exact (p1.trans (List.Perm.swap _ _ _)).symm
  refine s_sub (O' := chOwn ((((fx, lg, [], cutL ys none (some 4), hs), []), []) : ChV) q ql qh ++ [⟨st, oSt, ()⟩]) (List.Sublist.cons _ (List.Sublist.refl _)) (s_ret (d_var 10 (hk' hq' rfl)))
end
end Law
set_option Elab.async false
set_option linter.all false
set_option maxRecDepth 100000
set_option maxHeartbeats 4100000
/-! LwI: the law's own walks along legs (shared by the laws of paths). -/
namespace Sk
theorem rt_sub {K : PySem.W.Frag} {B : Bs} {Γ : Gm} {O O' : List Own} {α : Type} {r : Rp α} {x : α} {D : L2.Ends} (hs : List.Sublist O' O) (h : RT K B Γ O' r x D) : RT K B Γ O r x D := fun v σ G H W => h v σ G H (W.perm (fun w hw => hs.subset hw) fun z => z.sublist (hs.map _))
end Sk
namespace Law
open PySem L2 Evl Sk MP
local macro_rules | `(tactic| walk_at "sc") => `(tactic| first | omega | assumption | (with_reducible exact mulOk) | (with_reducible exact smOk) | (with_reducible exact ⟨by decide, smOk⟩) | decide | (simp only [List.length_cons, List.length_nil]; decide) | exact divOk (by omega))
theorem at_app1 {r : List Str} {x : Str} {k : Nat} (h : k < r.length) : at_ (r ++ [x]) k = at_ r k := by
  unfold at_
  rw [List.getD_eq_getElem?_getD, List.getD_eq_getElem?_getD, List.getElem?_append_left h]
theorem at_app2 {r : List Str} {x : Str} : at_ (r ++ [x]) r.length = x := by
  unfold at_
  rw [List.getD_eq_getElem?_getD, List.getElem?_append_right (Nat.le_refl _), Nat.sub_self]
  rfl
/-- a way along legs -/
structure WkOk (ch : ChV) (r : List Str) : Prop where
  one : 1 ≤ r.length
  fx : ∀ n ∈ r, ∃ p, valX (fxOf ch) (Sum.inr n) = some p ∧ PtOk p
  lg : ∀ k, k + 1 < r.length → ∃ l, lgb (lgOf ch) (at_ r k) (at_ r (k + 1)) = some l
theorem lgb_some {legs : List Leg} {l : Leg} (h : l ∈ legs) : ∃ l', lgb legs l.1 l.2.1 = some l' := by
  unfold lgb
  rw [← Option.isSome_iff_exists, List.find?_isSome]
  exact ⟨l, h, by simp⟩
theorem WkOk.snoc {ch : ChV} {r : List Str} (hc : ChOk ch) (h : WkOk ch r) {l : Leg} (hl : l ∈ lgOf ch) (e : l.1 = at_ r (r.length - 1)) : WkOk ch (r ++ [l.2.1]) where
  one := by rw [List.length_append]; exact Nat.le_add_left _ _
  fx := fun n hn => by
    rcases List.mem_append.mp hn with z | z
    · exact h.fx n z
    · rw [List.mem_singleton.mp z]
      exact (hc.pts l hl).2
  lg := fun k hk => by
    rw [List.length_append] at hk
    have hk : k + 1 < r.length + 1 := hk
    have h1 := h.one
    by_cases e2 : k + 1 < r.length
    · rw [at_app1 (by omega), at_app1 e2]
      exact h.lg k e2
    · have ek : k = r.length - 1 := by omega
      have ek2 : k + 1 = r.length := by omega
      rw [at_app1 (by omega), ek2, at_app2, ek, ← e]
      exact lgb_some hl
theorem RtV.so {ch : ChV} {r : List Str} (hc : ChOk ch) (h : RtV ch r) : ∀ n ∈ r, PyData.strOk n = true := fun n hn => by
  obtain ⟨k, hk⟩ := List.getElem?_of_mem hn
  have hl := (List.getElem?_eq_some_iff.mp hk).1
  have e : n = at_ r k := by
    have := at_get hl
    rw [hk] at this
    exact Option.some.inj this
  have h2 := h.two
  rw [e]
  by_cases z : k + 1 < r.length
  · obtain ⟨l, q⟩ := h.lg k z
    obtain ⟨q1, q2, _⟩ := lgb_spec q
    rw [← q2]
    exact (hc.so l q1).1
  · obtain ⟨l, q⟩ := h.lg (k - 1) (by omega)
    obtain ⟨q1, _, q3⟩ := lgb_spec q
    rw [show k - 1 + 1 = k by omega] at q3
    rw [← q3]
    exact (hc.so l q1).2.1
section
variable {P : Program} {w : World} {K : PySem.W.Frag} {mg : Str → Option Value} {base : Heap}
abbrev sp_walk (K : Fg) : Sp := sp1 K [] (fCons rAdr (fCons rChart (fOne rInt))) (fun x => (ChOk x.2.1 ∧ 0 < (lgOf x.2.1).length) ∧ 0 < x.2.2 ∧ x.2.2 ≤ 500) (fun x => ⟨x.1, oSt, ()⟩) (rTpv rStr) fun x y => RtV x.2.1 y
abbrev N_walk : List Str := ["_law_state", "_law_chart_here", "_law_most", "_law_starts", "_law_route", "_law_k", "_law_ends", "_law_leg_here"]
theorem sc_walk : FnScope N_walk ["_law_state", "_law_chart_here", "_law_most"] (defScope s_walk) := ⟨rfl, rfl, rfl, by decide +kernel, rfl, by decide +kernel, by decide +kernel⟩
theorem ok_walk (N : Nm K mg) (T : Bt mg) : FnOk P w K mg base CX0 3 N.walk.f N.walk.fd ["_law_state", "_law_chart_here", "_law_most"] (sp_walk K) := by
  refine fn_m N.walk.F sc_walk [] fun cdv A outer s G H E x Q fam hp hk => ?_
  obtain ⟨st, ch, mo⟩ := x
  obtain ⟨⟨hc, hl0⟩, m0, m1⟩ := hp
  dsimp only at hc hl0 m0 m1
  have hk' : ∀ {Γ : Gm} {d : List Str}, RtV ch d → RT K ⟨[], _, G, H, []⟩ Γ [⟨st, oSt, ()⟩] (rTpv rStr) d _ := fun {Γ d} e => hk ⟨rfl, e⟩
  clear hk
  have z1 : 100000 ≤ sizeLine := by decide
  have hlen := hc.len
  have hsl : (lgOf ch).length ≤ sizeLine := Nat.le_trans hlen (by decide)
  have bm : Bd 20 mo := Bd.of (by omega) (by omega)
  show DS _ K ⟨[], _, G, H, []⟩ [some ⟨rAdr, st⟩, some ⟨rChart, ch⟩, some ⟨rInt, mo⟩, none, none, none, none, none] [⟨st, oSt, ()⟩] (defBody s_walk) _
  refine s_lcP 3 (js := [7]) (ra := rLeg) (rb := rStr) (f := fun l : Leg => l.1) [("_law_leg_here", 7)] [7] (fun _ => blkOk_by (N := N_walk) (sc := defScope s_walk) (by decide +kernel)) (w_lst (d_recP 1 1 rfl chN_nd ⟨rfl, hsl, fun gg D ys x hx => (g_name 7 (d_ix (d_var (ra := rLeg) (x := x) 7 (d_int (i_tup 0 ⟨rfl, rfl⟩))))), ?_⟩))
  refine s_set 4 (d_lstO (ra := rStr) (da_all (d_call N.pick (ok_pick (ra := rStr) N T) (da_cons (d_var 0 (da_one (d_var 3 (sw_1 ⟨by dsimp only; rw [List.length_map]; exact hl0, by dsimp only; rw [List.length_map]; exact hsl⟩ (fun c hc2 => (da_all0 ⟨(by walk_at "sc"), fun q4 hq4 => ?_⟩))))))))))
  refine s_for (js := [5]) (w_rng1 T.range (d_bin (d_int (d_call N.draw (ok_draw N T) (da_cons (d_var 0 (da_one (d_var 2 (sw_1 ⟨m0, smOk⟩ (fun n hn => (o_add ⟨?_, ?_⟩)))))))))))
  · obtain ⟨n0, n1⟩ := hn
    dsimp only at n1
    omega
  obtain ⟨n0, n1⟩ := hn
  dsimp only at n1
  obtain ⟨ls, hls, ec⟩ := List.mem_map.mp hc2
  refine ⟨List Str, fun i d => i ≤ 501 ∧ WkOk ch d ∧ d.length ≤ i + 1 ∧ (i = 0 → ∃ l ∈ lgOf ch, l.1 = at_ d (d.length - 1)) ∧ (1 ≤ i → 2 ≤ d.length), fun _ => [some ⟨rAdr, st⟩, some ⟨rChart, ch⟩, some ⟨rInt, mo⟩, none, some ⟨rAdr, q4⟩, none, none, none], fun d => [⟨q4, oLst rStr, d⟩, ⟨st, oSt, ()⟩], ⟨[c], ⟨Nat.zero_le _, ⟨Nat.le_refl _, fun n hn => ?_, fun k hk => absurd hk (by simp)⟩, Nat.le_refl _, fun _ => ⟨ls, hls, ec⟩, fun h => absurd h (by decide)⟩, ⟨rfl, rfl, rfl, rfl, trivial⟩, rfl⟩, fun g i x d hx hd => (g_name 5 ?_), fun d hd => ?_⟩
  · rw [List.mem_singleton.mp hn, ← ec]
    exact (hc.pts ls hls).1
  · obtain ⟨hi, hw, hd1, hd2, hd3⟩ := hd
    obtain ⟨hlt, _⟩ := rgI_item hx
    have h1 := hw.one
    have gl : atI d ((d.length : Int) - 1) = some (at_ d (d.length - 1)) := atI_int (by omega) (by rw [show ((d.length : Int) - 1).toNat = d.length - 1 by omega]; exact at_get (by omega))
    refine s_lcF 6 (js := [7]) (ra := rLeg) (rb := rStr) (f := fun l : Leg => l.2.1) (g := fun l : Leg => decide (l.1 = at_ d (d.length - 1))) [("_law_leg_here", 7)] [7] (fun _ => blkOk_by (N := N_walk) (sc := defScope s_walk) (by decide +kernel)) (w_lst (d_recP 1 1 rfl chN_nd ⟨rfl, hsl, fun gg D ys x hx => (g_name 7 (dts_one (dt_then (dt_cmp (d_ix (d_var (ra := rLeg) (x := x) 7 (d_int (i_tup 0 (d_ix (d_var 4 (d_bin (d_callB T.len bt_len (da_one (d_var 4 (c_lenG (d_int (o_sub (i_ls gl (o_eqS ⟨rfl, rfl⟩)))))))))))))))) ⟨rfl, rfl, fun hb => (d_ix (d_var (ra := rLeg) (x := x) 7 (d_int (i_tup 1 ⟨rfl, rfl⟩))))⟩))), ?_⟩))
    have hsz : (((lgOf ch).filter fun l => decide (l.1 = at_ d (d.length - 1))).map fun l : Leg => l.2.1).length ≤ 1000 := by
      rw [List.length_map]
      exact Nat.le_trans (List.length_filter_le _ _) hlen
    refine s_ifP (dt_cmp (d_callB T.len bt_len (da_one (d_var 6 (c_lenL (d_int (o_gt ⟨rfl, rfl⟩))))))) (fun hb => ?_) (fun hb => ?_)
    · have hpos := of_decide_eq_true hb
      refine s_expr (d_app (ra := rStr) (d_var 4 ⟨_, _, inferInstance, (d_call N.pick (ok_pick (ra := rStr) N T) (da_cons (d_var 0 (da_one (d_var 6 (sw_1 ⟨Int.ofNat_lt.mp hpos, Nat.le_trans hsz (by decide)⟩ (fun c2 hc3 => ⟨_, _, inferInstance, ?_, ?_⟩)))))))⟩))
      · omega
      obtain ⟨l2, hl2, e2⟩ := List.mem_map.mp hc3
      obtain ⟨m2, e3⟩ := List.mem_filter.mp hl2
      have e3 := of_decide_eq_true e3
      subst e2
      refine s_out (s_next (d ++ [l2.2.1]) ⟨?_, hw.snoc hc m2 e3, ?_, fun z => absurd z (by omega), fun _ => ?_⟩ ⟨rfl, rfl, rfl, rfl, trivial⟩ rfl)
      · omega
      · rw [List.length_append]
        exact Nat.succ_le_succ hd1
      · rw [List.length_append]
        exact Nat.succ_le_succ h1
    · have hneg := of_decide_eq_false hb
      refine s_out (s_next d ⟨?_, hw, by omega, fun z => absurd z (by omega), fun _ => ?_⟩ ⟨rfl, rfl, rfl, rfl, trivial⟩ rfl)
      · omega
      · by_cases z : i = 0
        · exfalso
          obtain ⟨l, ml, el⟩ := hd2 z
          have : l.2.1 ∈ (((lgOf ch).filter fun l => decide (l.1 = at_ d (d.length - 1))).map fun l : Leg => l.2.1) := List.mem_map.mpr ⟨l, List.mem_filter.mpr ⟨ml, decide_eq_true el⟩, rfl⟩
          exact hneg (Int.ofNat_lt.mpr (List.length_pos_of_mem this))
        · exact hd3 (by omega)
  · obtain ⟨hi, hw, hd1, hd2, hd3⟩ := hd
    rw [rgI_len] at hi hd1 hd3
    refine s_ret (d_callT T.tuple bt_tuple (da_one (d_var 4 (c_tuple (rt_sub (O' := [⟨st, oSt, ()⟩]) (List.Sublist.cons _ (List.Sublist.refl _)) (hk' ⟨hd3 (by omega), by omega, hw.fx, hw.lg⟩))))))
end
end Law
set_option Elab.async false
set_option linter.all false
/-! M10: the plain law of winds: corners of a step, the last wind that has begun. -/
namespace M10
abbrev W4 := Int × Int × Int × Int
abbrev ab (x : Int) : Int := if x < 0 then -x else x
theorem ab0 (x : Int) : 0 ≤ ab x := by unfold ab; split <;> omega
theorem highC (wx e dx : Int) : ∃ x, (x = wx - e ∨ x = wx + e) ∧ x * dx = wx * dx + e * ab dx := by
  unfold ab
  split
  · exact ⟨wx - e, .inl rfl, by rw [Int.sub_mul, Int.mul_neg]; omega⟩
  · exact ⟨wx + e, .inr rfl, by rw [Int.add_mul]⟩
theorem within (wx e dx x : Int) (h1 : wx - e ≤ x) (h2 : x ≤ wx + e) : wx * dx - e * ab dx ≤ x * dx ∧ x * dx ≤ wx * dx + e * ab dx := by
  unfold ab
  split
  · rename_i h
    have h3 := Int.mul_le_mul_of_nonneg_right (show x - wx ≤ e by omega) (show 0 ≤ -dx by omega)
    have h4 := Int.mul_le_mul_of_nonneg_right (show -e ≤ x - wx by omega) (show 0 ≤ -dx by omega)
    simp only [Int.sub_mul, Int.mul_neg, Int.neg_mul] at h3 h4 ⊢
    omega
  · rename_i h
    have h3 := Int.mul_le_mul_of_nonneg_right (show x - wx ≤ e by omega) (show 0 ≤ dx by omega)
    have h4 := Int.mul_le_mul_of_nonneg_right (show -e ≤ x - wx by omega) (show 0 ≤ dx by omega)
    simp only [Int.sub_mul, Int.neg_mul] at h3 h4 ⊢
    omega
abbrev push (dx dy wx wy : Int) : Int := wx * dx + wy * dy
abbrev doubt (dx dy e : Int) : Int := e * (ab dx + ab dy)
theorem inside {dx dy wx wy e x y : Int} (h1 : wx - e ≤ x) (h2 : x ≤ wx + e) (h3 : wy - e ≤ y) (h4 : y ≤ wy + e) : push dx dy wx wy - doubt dx dy e ≤ x * dx + y * dy ∧ x * dx + y * dy ≤ push dx dy wx wy + doubt dx dy e := by
  have a := within wx e dx x h1 h2
  have b := within wy e dy y h3 h4
  unfold push doubt
  rw [Int.mul_add]
  omega
/-- the four pushes -/
abbrev four (dx dy len wx wy e : Int) : List Int := [wx - e, wx + e].flatMap fun x => [wy - e, wy + e].map fun y => (x * dx + y * dy) / len
theorem mem4 {dx dy len wx wy e : Int} {m : Int} : m ∈ four dx dy len wx wy e ↔ ∃ x y, (x = wx - e ∨ x = wx + e) ∧ (y = wy - e ∨ y = wy + e) ∧ m = (x * dx + y * dy) / len := by
  unfold four
  simp only [List.mem_flatMap, List.mem_map, List.mem_cons, List.not_mem_nil, or_false]
  constructor
  · rintro ⟨x, hx, y, hy, e⟩
    exact ⟨x, y, hx, hy, e.symm⟩
  · rintro ⟨x, y, hx, hy, e⟩
    exact ⟨x, hx, y, hy, e.symm⟩
theorem most {dx dy len wx wy e m : Int} (hl : 0 < len) (he : 0 ≤ e) (h1 : m ∈ four dx dy len wx wy e) (h2 : ∀ y ∈ four dx dy len wx wy e, y ≤ m) : m = (push dx dy wx wy + doubt dx dy e) / len := by
  refine Int.le_antisymm ?_ ?_
  · obtain ⟨x, y, hx, hy, rfl⟩ := mem4.mp h1
    refine Int.ediv_le_ediv hl ?_
    exact (inside (by omega) (by omega) (by omega) (by omega)).2
  · obtain ⟨x, hx, ex⟩ := highC wx e dx
    obtain ⟨y, hy, ey⟩ := highC wy e dy
    have h3 := h2 _ (mem4.mpr ⟨x, y, hx, hy, rfl⟩)
    have e1 : x * dx + y * dy = push dx dy wx wy + doubt dx dy e := by
      unfold push doubt
      rw [Int.mul_add]
      omega
    rw [e1] at h3
    exact h3
/-- the last wind that has begun -/
def stp (t : Int) (f w : W4) : W4 := if w.1 ≤ t then w else f
theorem fold_last (t : Int) : ∀ (ws : List W4) (f : W4), ws.foldl (stp t) f = ((ws.filter fun w => decide (w.1 ≤ t)).getLast?).getD f
  | [], f => rfl
  | w :: ws, f => by
    rw [List.foldl_cons, fold_last t ws, List.filter_cons]
    unfold stp
    by_cases h : w.1 ≤ t
    · rw [if_pos h, if_pos (by simpa using h)]
      rw [List.getLast?_cons]
      rfl
    · rw [if_neg h, if_neg (by simpa using h)]
end M10
set_option Elab.async false
set_option linter.all false
set_option maxRecDepth 100000
set_option maxHeartbeats 4100000
/-! MB: the next box, plainly (shared by the laws of tubes). -/
namespace MP
open PySem L2 Evl Sk M10
abbrev K5 := Int × Int × Int × Int × Int
abbrev B4 := Int × Int × Int × Int
abbrev windAt (ws : List W4) (t : Int) : W4 := ws.foldl (stp t) (ws.getD 0 (0, 0, 0, 0))
/-- the law's own: the last one that has begun -/
theorem wind_last {ws : List W4} {t : Int} {w : W4} (h : ws[0]? = some w) (h0 : w.1 ≤ t) : (ws.filter fun w => decide (w.1 ≤ t)).getLast? = some (windAt ws t) := by
  unfold windAt
  rw [fold_last]
  cases ws with
  | nil => simp at h
  | cons a r =>
    have e : a = w := by simpa using h
    subst e
    rw [List.filter_cons, if_pos (decide_eq_true h0), List.getLast?_cons]
    rfl
def stpB (v : P3) (sp sl : Int) (w : W4) : Int × Int := (sp - sl + (push v.1 v.2.1 w.2.1 w.2.2.1 - doubt v.1 v.2.1 w.2.2.2) / v.2.2, sp + sl + (push v.1 v.2.1 w.2.1 w.2.2.1 + doubt v.1 v.2.1 w.2.2.2) / v.2.2)
theorem stpB_le {v : P3} {sp sl : Int} {w : W4} (hl : 0 < v.2.2) (h0 : 0 ≤ sl) (he : 0 ≤ w.2.2.2) : (stpB v sp sl w).1 ≤ (stpB v sp sl w).2 := by
  have h1 := ab0 v.1
  have h2 := ab0 v.2.1
  have h3 : 0 ≤ doubt v.1 v.2.1 w.2.2.2 := Int.mul_nonneg he (by omega)
  have h4 := Int.ediv_le_ediv hl (show push v.1 v.2.1 w.2.1 w.2.2.1 - doubt v.1 v.2.1 w.2.2.2 ≤ push v.1 v.2.1 w.2.1 w.2.2.1 + doubt v.1 v.2.1 w.2.2.2 by omega)
  unfold stpB
  dsimp only
  omega
abbrev bnd (fx : Fx) (r : List Str) (sp sl : Int) (w : W4) (k : Nat) : Int × Int := stpB (vec fx r k) sp sl w
def inR (lv : Int) (l : Leg) : Int := mn (mx lv l.2.2.2.1) l.2.2.2.2
def tgt (legs : List Leg) (r : List Str) (lv : Int) (k : Nat) : Int := if k + 2 < r.length then inR (inR lv (lgAt legs r k)) (lgAt legs r (k + 1)) else inR lv (lgAt legs r k)
def tow (lv g rt : Int) : Int := if lv < g then mn (lv + rt) g else mx (lv - rt) g
def nlv (k : K5) (g dn up : Int) : Int × Int := (tow dn g (if dn < g then k.2.2.2.1 else k.2.2.2.2), tow up g (if up < g then k.2.2.2.2 else k.2.2.2.1))
/-! ### the least, the greatest of what S says -/
def IsMin (S : Int → Prop) (m : Int) : Prop := S m ∧ ∀ x, S x → m ≤ x
def IsMax (S : Int → Prop) (m : Int) : Prop := S m ∧ ∀ x, S x → x ≤ m
theorem IsMin.eq {S : Int → Prop} {a b : Int} (h : IsMin S a) (h' : IsMin S b) : a = b := Int.le_antisymm (h.2 _ h'.1) (h'.2 _ h.1)
theorem IsMax.eq {S : Int → Prop} {a b : Int} (h : IsMax S a) (h' : IsMax S b) : a = b := Int.le_antisymm (h'.2 _ h.1) (h.2 _ h'.1)
theorem IsMin.sub {S T : Int → Prop} {a b : Int} (h : IsMin S a) (h' : IsMin T b) (hs : ∀ x, T x → S x) : a ≤ b := h.2 _ (hs _ h'.1)
theorem IsMax.sub {S T : Int → Prop} {a b : Int} (h : IsMax S a) (h' : IsMax T b) (hs : ∀ x, T x → S x) : b ≤ a := h.2 _ (hs _ h'.1)
/-! ### all places and levels of a box -/
structure NbIn where
  fx : Fx
  legs : List Leg
  r : List Str
  sp : Int
  lv : Int
  kd : K5
  sl : Int
  w : W4
def NbIn.S1 (n : NbIn) (b : B4) (v : Int) : Prop := ∃ p, b.1 ≤ p ∧ p ≤ b.2.1 ∧ v = p + (bnd n.fx n.r n.sp n.sl n.w (la n.fx n.r p)).1
def NbIn.S2 (n : NbIn) (b : B4) (v : Int) : Prop := ∃ p, b.1 ≤ p ∧ p ≤ b.2.1 ∧ v = p + (bnd n.fx n.r n.sp n.sl n.w (la n.fx n.r p)).2
def NbIn.S3 (n : NbIn) (b : B4) (v : Int) : Prop := ∃ p lv rt, b.1 ≤ p ∧ p ≤ b.2.1 ∧ b.2.2.1 ≤ lv ∧ lv ≤ b.2.2.2 ∧ (rt = n.kd.2.2.2.1 ∨ rt = n.kd.2.2.2.2) ∧ v = tow lv (tgt n.legs n.r n.lv (la n.fx n.r p)) rt
structure NbOk (n : NbIn) (b y : B4) : Prop where
  n1 : IsMin (n.S1 b) y.1
  n2 : IsMax (n.S2 b) y.2.1
  n3 : IsMin (n.S3 b) y.2.2.1
  n4 : IsMax (n.S3 b) y.2.2.2
theorem NbOk.eq {n : NbIn} {b y z : B4} (h : NbOk n b y) (h' : NbOk n b z) : y = z :=
  Prod.ext (h.n1.eq h'.n1) (Prod.ext (h.n2.eq h'.n2) (Prod.ext (h.n3.eq h'.n3) (h.n4.eq h'.n4)))
structure BIn (b c : B4) : Prop where
  n1 : b.1 ≤ c.1
  n2 : c.2.1 ≤ b.2.1
  n3 : b.2.2.1 ≤ c.2.2.1
  n4 : c.2.2.2 ≤ b.2.2.2
/-- a smaller box gives a smaller box -/
theorem NbOk.sub {n : NbIn} {b c y z : B4} (h : NbOk n b y) (h' : NbOk n c z) (hs : BIn b c) : BIn y z :=
  ⟨h.n1.sub h'.n1 fun x ⟨p, h1, h2, e⟩ => ⟨p, Int.le_trans hs.n1 h1, Int.le_trans h2 hs.n2, e⟩, h.n2.sub h'.n2 fun x ⟨p, h1, h2, e⟩ => ⟨p, Int.le_trans hs.n1 h1, Int.le_trans h2 hs.n2, e⟩,
   h.n3.sub h'.n3 fun x ⟨p, lv, rt, h1, h2, h3, h4, h5, e⟩ => ⟨p, lv, rt, Int.le_trans hs.n1 h1, Int.le_trans h2 hs.n2, Int.le_trans hs.n3 h3, Int.le_trans h4 hs.n4, h5, e⟩,
   h.n4.sub h'.n4 fun x ⟨p, lv, rt, h1, h2, h3, h4, h5, e⟩ => ⟨p, lv, rt, Int.le_trans hs.n1 h1, Int.le_trans h2 hs.n2, Int.le_trans hs.n3 h3, Int.le_trans h4 hs.n4, h5, e⟩⟩
/-- what a box must be -/
structure BoxOk (b : B4) : Prop where
  p : b.1 ≤ b.2.1
  l : b.2.2.1 ≤ b.2.2.2
/-- lengths that are not 0 -/
abbrev Strict (fx : Fx) (r : List Str) : Prop := ∀ k, k + 1 < r.length → 1 ≤ ln fx (at_ r k) (at_ r (k + 1))
theorem bg_lt {fx : Fx} {r : List Str} (h : Strict fx r) {k : Nat} (hk : k + 1 < r.length) : bg fx r k < bg fx r (k + 1) := by
  have := h k hk
  show bg fx r k < bg fx r k + ln fx (at_ r k) (at_ r (k + 1))
  omega
theorem la_ok (fx : Fx) {r : List Str} (h2 : 2 ≤ r.length) (p : Int) : LaOk (bg fx r) (r.length - 1) p (la fx r p) := by
  have := laI_la (fun i j => bg_mono fx r) p (m := r.length - 1) (by omega)
  rw [show r.length - 1 - 1 = r.length - 2 by omega] at this
  exact this
theorem la_eq {fx : Fx} {r : List Str} (h2 : 2 ≤ r.length) {p : Int} {k : Nat} (h : LaOk (bg fx r) (r.length - 1) p k) : la fx r p = k := la_unique (fun i j => bg_mono fx r) (la_ok fx h2 p) h
theorem la_mono (fx : Fx) {r : List Str} (h2 : 2 ≤ r.length) {p q : Int} (h : p ≤ q) : la fx r p ≤ la fx r q := by
  have a := la_ok fx h2 p
  have b := la_ok fx h2 q
  rcases Nat.lt_or_ge (la fx r q) (la fx r p) with z | z
  · exfalso
    rcases b.en with e | e
    · have := a.lt
      omega
    · have := a.le (la fx r q + 1) (by omega) (by omega)
      omega
  · exact z
/-- where the box begins, ends on a leg -/
def stA (fx : Fx) (r : List Str) (b : B4) (k : Nat) : Int := if k = la fx r b.1 then b.1 else bg fx r k
def enA (fx : Fx) (r : List Str) (b : B4) (k : Nat) : Int := if k = la fx r b.2.1 then b.2.1 else bg fx r (k + 1) - 1
theorem stA_ok {fx : Fx} {r : List Str} {b : B4} (h2 : 2 ≤ r.length) (hs : Strict fx r) (hb : BoxOk b) {k : Nat} (h : la fx r b.1 ≤ k) (h' : k ≤ la fx r b.2.1) : b.1 ≤ stA fx r b k ∧ stA fx r b k ≤ b.2.1 ∧ la fx r (stA fx r b k) = k := by
  have A := la_ok fx h2 b.1
  have B := la_ok fx h2 b.2.1
  have bp := hb.p
  unfold stA
  by_cases e : k = la fx r b.1
  · rw [if_pos e]
    exact ⟨Int.le_refl _, bp, e.symm⟩
  · rw [if_neg e]
    have k1 := B.lt
    have c1 : b.1 < bg fx r k := by
      rcases A.en with z | z
      · omega
      · have := bg_mono fx r (show la fx r b.1 + 1 ≤ k by omega)
        omega
    refine ⟨by omega, B.le k (by omega) h', la_eq h2 ⟨by omega, fun j _ hj => bg_mono fx r hj, ?_⟩⟩
    by_cases z : k + 1 = r.length - 1
    · exact .inl z
    · exact .inr (bg_lt hs (by omega))
theorem enA_ok {fx : Fx} {r : List Str} {b : B4} (h2 : 2 ≤ r.length) (hs : Strict fx r) (hb : BoxOk b) {k : Nat} (h : la fx r b.1 ≤ k) (h' : k ≤ la fx r b.2.1) : b.1 ≤ enA fx r b k ∧ enA fx r b k ≤ b.2.1 ∧ la fx r (enA fx r b k) = k := by
  have A := la_ok fx h2 b.1
  have B := la_ok fx h2 b.2.1
  have bp := hb.p
  unfold enA
  by_cases e : k = la fx r b.2.1
  · rw [if_pos e]
    exact ⟨bp, Int.le_refl _, e.symm⟩
  · rw [if_neg e]
    have k1 := B.lt
    have c1 : b.1 < bg fx r (k + 1) := by
      rcases A.en with z | z
      · omega
      · have := bg_mono fx r (show la fx r b.1 + 1 ≤ k + 1 by omega)
        omega
    have c2 := B.le (k + 1) (by omega) (by omega)
    have c3 := bg_lt hs (show k + 1 < r.length by omega)
    refine ⟨by omega, by omega, la_eq h2 ⟨by omega, fun j _ hj => ?_, .inr (by omega)⟩⟩
    have := bg_mono fx r hj
    omega
theorem stA_le {fx : Fx} {r : List Str} {b : B4} (h2 : 2 ≤ r.length) {p : Int} (h : b.1 ≤ p) : stA fx r b (la fx r p) ≤ p := by
  unfold stA
  by_cases e : la fx r p = la fx r b.1
  · rw [if_pos e]
    exact h
  · rw [if_neg e]
    have := la_mono fx h2 h
    exact (la_ok fx h2 p).le _ (by omega) (Nat.le_refl _)
theorem le_enA {fx : Fx} {r : List Str} {b : B4} (h2 : 2 ≤ r.length) {p : Int} (h : p ≤ b.2.1) : p ≤ enA fx r b (la fx r p) := by
  unfold enA
  by_cases e : la fx r p = la fx r b.2.1
  · rw [if_pos e]
    exact h
  · rw [if_neg e]
    have m := la_mono fx h2 h
    have B := la_ok fx h2 b.2.1
    have k1 := B.lt
    rcases (la_ok fx h2 p).en with z | z
    · omega
    · omega
/-! ### levels -/
theorem tow_dn {k : K5} {g dn up lv rt : Int} (hk : k.2.2.2.1 ≤ k.2.2.2.2) (h1 : dn ≤ lv) (hr : rt = k.2.2.2.1 ∨ rt = k.2.2.2.2) : (nlv k g dn up).1 ≤ tow lv g rt := by
  obtain ⟨_, _, _, a, c⟩ := k
  unfold nlv tow mn mx
  dsimp only at hk hr ⊢
  rcases hr with rfl | rfl <;> (repeat' split) <;> omega
theorem tow_up {k : K5} {g dn up lv rt : Int} (hk : k.2.2.2.1 ≤ k.2.2.2.2) (h1 : lv ≤ up) (hr : rt = k.2.2.2.1 ∨ rt = k.2.2.2.2) : tow lv g rt ≤ (nlv k g dn up).2 := by
  obtain ⟨_, _, _, a, c⟩ := k
  unfold nlv tow mn mx
  dsimp only at hk hr ⊢
  rcases hr with rfl | rfl <;> (repeat' split) <;> omega
/-! ### by legs -/
def nbRow (n : NbIn) (b : B4) (k : Nat) : B4 := (stA n.fx n.r b k + (bnd n.fx n.r n.sp n.sl n.w k).1, enA n.fx n.r b k + (bnd n.fx n.r n.sp n.sl n.w k).2, (nlv n.kd (tgt n.legs n.r n.lv k) b.2.2.1 b.2.2.2).1, (nlv n.kd (tgt n.legs n.r n.lv k) b.2.2.1 b.2.2.2).2)
def nbRows (n : NbIn) (b : B4) : List B4 := (List.range (la n.fx n.r b.2.1 + 1 - la n.fx n.r b.1)).map fun j => nbRow n b (la n.fx n.r b.1 + j)
theorem row_mem {n : NbIn} {b x : B4} : x ∈ nbRows n b ↔ ∃ k, la n.fx n.r b.1 ≤ k ∧ k ≤ la n.fx n.r b.2.1 ∧ x = nbRow n b k := by
  unfold nbRows
  rw [List.mem_map]
  constructor
  · rintro ⟨j, hj, e⟩
    have := List.mem_range.mp hj
    exact ⟨_, Nat.le_add_right _ _, by omega, e.symm⟩
  · rintro ⟨k, h1, h2, e⟩
    exact ⟨k - la n.fx n.r b.1, List.mem_range.mpr (by omega), by rw [e, Nat.add_sub_of_le h1]⟩
theorem nb_of {n : NbIn} {b : B4} {m1 m2 m3 m4 : Int} (h2 : 2 ≤ n.r.length) (hs : Strict n.fx n.r) (hb : BoxOk b) (hk : n.kd.2.2.2.1 ≤ n.kd.2.2.2.2)
    (a1 : m1 ∈ (nbRows n b).map fun x : B4 => x.1) (a2 : ∀ y ∈ (nbRows n b).map fun x : B4 => x.1, m1 ≤ y) (b1 : m2 ∈ (nbRows n b).map fun x : B4 => x.2.1) (b2 : ∀ y ∈ (nbRows n b).map fun x : B4 => x.2.1, y ≤ m2)
    (c1 : m3 ∈ (nbRows n b).map fun x : B4 => x.2.2.1) (c2 : ∀ y ∈ (nbRows n b).map fun x : B4 => x.2.2.1, m3 ≤ y) (d1 : m4 ∈ (nbRows n b).map fun x : B4 => x.2.2.2) (d2 : ∀ y ∈ (nbRows n b).map fun x : B4 => x.2.2.2, y ≤ m4) : NbOk n b (m1, m2, m3, m4) := by
  have row : ∀ {p : Int}, b.1 ≤ p → p ≤ b.2.1 → nbRow n b (la n.fx n.r p) ∈ nbRows n b := fun h h' => row_mem.mpr ⟨_, la_mono n.fx h2 h, la_mono n.fx h2 h', rfl⟩
  have bl := hb.l
  refine ⟨⟨?_, ?_⟩, ⟨?_, ?_⟩, ⟨?_, ?_⟩, ⟨?_, ?_⟩⟩
  · obtain ⟨x, hx, e⟩ := List.mem_map.mp a1
    obtain ⟨k, k1, k2, e2⟩ := row_mem.mp hx
    subst e2
    obtain ⟨s1, s2, s3⟩ := stA_ok h2 hs hb k1 k2
    exact ⟨_, s1, s2, by rw [s3]; exact e.symm⟩
  · rintro v ⟨p, h, h', e⟩
    have := a2 _ (List.mem_map.mpr ⟨_, row h h', rfl⟩)
    have h3 := stA_le (fx := n.fx) (b := b) h2 h
    rw [e]
    show m1 ≤ _
    exact Int.le_trans this (Int.add_le_add_right h3 _)
  · obtain ⟨x, hx, e⟩ := List.mem_map.mp b1
    obtain ⟨k, k1, k2, e2⟩ := row_mem.mp hx
    subst e2
    obtain ⟨s1, s2, s3⟩ := enA_ok h2 hs hb k1 k2
    exact ⟨_, s1, s2, by rw [s3]; exact e.symm⟩
  · rintro v ⟨p, h, h', e⟩
    have := b2 _ (List.mem_map.mpr ⟨_, row h h', rfl⟩)
    have h3 := le_enA (fx := n.fx) (b := b) h2 h'
    rw [e]
    show _ ≤ m2
    exact Int.le_trans (Int.add_le_add_right h3 _) this
  · obtain ⟨x, hx, e⟩ := List.mem_map.mp c1
    obtain ⟨k, k1, k2, e2⟩ := row_mem.mp hx
    subst e2
    obtain ⟨s1, s2, s3⟩ := stA_ok h2 hs hb k1 k2
    refine ⟨_, b.2.2.1, (if b.2.2.1 < tgt n.legs n.r n.lv k then n.kd.2.2.2.1 else n.kd.2.2.2.2), s1, s2, Int.le_refl _, bl, ?_, by rw [s3]; exact e.symm⟩
    split
    · exact .inl rfl
    · exact .inr rfl
  · rintro v ⟨p, lv, rt, h, h', h3, h4, hr, e⟩
    have := c2 _ (List.mem_map.mpr ⟨_, row h h', rfl⟩)
    rw [e]
    exact Int.le_trans this (tow_dn hk h3 hr)
  · obtain ⟨x, hx, e⟩ := List.mem_map.mp d1
    obtain ⟨k, k1, k2, e2⟩ := row_mem.mp hx
    subst e2
    obtain ⟨s1, s2, s3⟩ := stA_ok h2 hs hb k1 k2
    refine ⟨_, b.2.2.2, (if b.2.2.2 < tgt n.legs n.r n.lv k then n.kd.2.2.2.2 else n.kd.2.2.2.1), s1, s2, bl, Int.le_refl _, ?_, by rw [s3]; exact e.symm⟩
    split
    · exact .inr rfl
    · exact .inl rfl
  · rintro v ⟨p, lv, rt, h, h', h3, h4, hr, e⟩
    have := d2 _ (List.mem_map.mpr ⟨_, row h h', rfl⟩)
    rw [e]
    exact Int.le_trans (tow_up hk h4 hr) this
/-- and it is a box -/
theorem NbOk.box {n : NbIn} {b y : B4} (hs : ∀ k, (bnd n.fx n.r n.sp n.sl n.w (la n.fx n.r k)).1 ≤ (bnd n.fx n.r n.sp n.sl n.w (la n.fx n.r k)).2) (h : NbOk n b y) : BoxOk y := by
  constructor
  · obtain ⟨p, h1, h2, e⟩ := h.n1.1
    have h3 := h.n2.2 _ ⟨p, h1, h2, rfl⟩
    have := hs p
    omega
  · exact h.n3.2 _ h.n4.1
end MP
set_option Elab.async false
set_option linter.all false
set_option maxRecDepth 100000
set_option maxHeartbeats 4100000
/-! CrT: kinds, rules, winds as they stand; winds, targets, levels of a course (shared by the laws of tubes). -/
namespace Law
open PySem L2 Evl Sk MP M10
local macro_rules | `(tactic| walk_at "sc") => `(tactic| first | omega | assumption | (with_reducible exact mulOk) | (with_reducible exact smOk) | (with_reducible exact ⟨by decide, smOk⟩) | decide | (simp only [List.length_cons, List.length_nil]; decide) | exact divOk (by omega))
theorem RtV.strict {ch : ChV} {r : List Str} (hc : ChOk ch) (h : RtV ch r) : Strict (fxOf ch) r := fun k hk => by
  obtain ⟨l, hl⟩ := h.lg k hk
  obtain ⟨m, e1, e2⟩ := lgb_spec hl
  have := hc.ap l m
  rw [e1, e2] at this
  exact this
abbrev rWnd : Rp W4 := rTup (fCons rInt (fCons rInt (fCons rInt (fOne rInt))))
abbrev rK5 : Rp K5 := rTup (fCons rInt (fCons rInt (fCons rInt (fCons rInt (fOne rInt)))))
abbrev rB4 : Rp B4 := rTup (fCons rInt (fCons rInt (fCons rInt (fOne rInt))))
abbrev CrV := List Str × Int × Int
abbrev rCrs : Rp CrV := rTup (fCons (rTpv rStr) (fCons rInt (fOne rInt)))
abbrev ruN4 : List Str := ["lateral", "vertical", "radius", "band"]
abbrev ruN : List Str := ["lateral", "vertical", "radius", "band", "slip", "radar", "height", "foreign", "climb", "memory", "ahead", "gaps"]
theorem ruN_nd : ruN.Nodup := by decide +kernel
theorem ruN4_nd : ruN4.Nodup := by decide +kernel
abbrev RuV := ((((((((Int × Int × Int × Int) × Int) × Int) × Int) × Int) × Int) × Int) × Int) × List (List Int)
abbrev ruF4 : RpF (Int × Int × Int × Int) := fCons rInt (fCons rInt (fCons rInt (fOne rInt)))
abbrev ruF : RpF RuV := fApp (fApp (fApp (fApp (fApp (fApp (fApp (fApp ruF4 rInt) rInt) rInt) rInt) rInt) rInt) rInt) (rTpv (rTpv rInt))
abbrev rRules : Rp RuV := rRec ruN ruF
abbrev slipOf (x : RuV) : Int := x.1.1.1.1.1.1.1.2
abbrev radarOf (x : RuV) : Int := x.1.1.1.1.1.1.2
abbrev heightOf (x : RuV) : Int := x.1.1.1.1.1.2
abbrev lateralOf (x : RuV) : Int := x.1.1.1.1.1.1.1.1.1
abbrev verticalOf (x : RuV) : Int := x.1.1.1.1.1.1.1.1.2.1
abbrev radiusOf (x : RuV) : Int := x.1.1.1.1.1.1.1.1.2.2.1
abbrev bandOf (x : RuV) : Int := x.1.1.1.1.1.1.1.1.2.2.2
/-- winds of the law -/
structure WdOk (ws : List W4) : Prop where
  len : ws.length ≤ 1000
  first : ∃ w, ws[0]? = some w ∧ w.1 = 0
  x0 : ∀ w ∈ ws, -1000 ≤ w.2.1 ∧ w.2.1 ≤ 1000
  y0 : ∀ w ∈ ws, -1000 ≤ w.2.2.1 ∧ w.2.2.1 ≤ 1000
  e0 : ∀ w ∈ ws, 0 ≤ w.2.2.2 ∧ w.2.2.2 ≤ 1000
theorem fold_mem (t : Int) : ∀ (ws : List W4) (f : W4), ws.foldl (stp t) f = f ∨ ws.foldl (stp t) f ∈ ws
  | [], _ => .inl rfl
  | w :: ws, f => by
    rw [List.foldl_cons]
    rcases fold_mem t ws (stp t f w) with z | z
    · rw [z]
      unfold stp
      by_cases h : w.1 ≤ t
      · rw [if_pos h]
        exact .inr List.mem_cons_self
      · rw [if_neg h]
        exact .inl rfl
    · exact .inr (List.mem_cons_of_mem _ z)
theorem WdOk.at {ws : List W4} (h : WdOk ws) (t : Int) : windAt ws t ∈ ws := by
  obtain ⟨w, h0, _⟩ := h.first
  have e : ws.getD 0 (0, 0, 0, 0) = w := by rw [List.getD_eq_getElem?_getD, h0]; rfl
  unfold windAt
  rcases fold_mem t ws (ws.getD 0 (0, 0, 0, 0)) with z | z
  · rw [z, e]
    exact List.mem_of_getElem? h0
  · exact z
/-- a wind of the law -/
structure WnOk (w : W4) : Prop where
  x : -1000 ≤ w.2.1 ∧ w.2.1 ≤ 1000
  y : -1000 ≤ w.2.2.1 ∧ w.2.2.1 ≤ 1000
  e : 0 ≤ w.2.2.2 ∧ w.2.2.2 ≤ 1000
theorem WdOk.ok {ws : List W4} (h : WdOk ws) (t : Int) : WnOk (windAt ws t) := ⟨h.x0 _ (h.at t), h.y0 _ (h.at t), h.e0 _ (h.at t)⟩
structure KdOk (k : K5) : Prop where
  w : 0 ≤ k.1 ∧ k.1 ≤ 3
  s : 1 ≤ k.2.1 ∧ k.2.1 ≤ 60
  f : k.2.1 ≤ k.2.2.1 ∧ k.2.2.1 ≤ k.2.1 + 8
  l : 1 ≤ k.2.2.2.1 ∧ k.2.2.2.1 ≤ 6
  m : k.2.2.2.1 ≤ k.2.2.2.2 ∧ k.2.2.2.2 ≤ k.2.2.2.1 + 8
abbrev memoryOf (x : RuV) : Int := x.1.1.2
abbrev aheadOf (x : RuV) : Int := x.1.2
abbrev foreignOf (x : RuV) : Int := x.1.1.1.1.2
abbrev climbOf (x : RuV) : Int := x.1.1.1.2
abbrev gapsOf (x : RuV) : List (List Int) := x.2
structure RuOk (x : RuV) : Prop where
  lat : 1 ≤ lateralOf x ∧ lateralOf x ≤ 60
  ver : 1 ≤ verticalOf x ∧ verticalOf x ≤ 60
  rad : 0 ≤ radiusOf x ∧ radiusOf x ≤ 3
  ban : 0 ≤ bandOf x ∧ bandOf x ≤ 3
  sli : 0 ≤ slipOf x ∧ slipOf x ≤ 3
  rar : 0 ≤ radarOf x ∧ 2 * radarOf x < lateralOf x
  hei : 0 ≤ heightOf x ∧ 2 * heightOf x < verticalOf x
  fo : 0 ≤ foreignOf x ∧ foreignOf x ≤ 8
  cl : 0 ≤ climbOf x ∧ climbOf x ≤ 8
  me : 1 ≤ memoryOf x ∧ memoryOf x ≤ 5
  ah : 0 ≤ aheadOf x ∧ aheadOf x ≤ 8
  gl : (gapsOf x).length = 4
  gs : ∀ g ∈ gapsOf x, g.length = 4 ∧ ∀ y ∈ g, 1 ≤ y ∧ y ≤ 5
end Law
set_option Elab.async false
set_option linter.all false
set_option maxRecDepth 100000
set_option maxHeartbeats 4100000
/-! LkR: rules of the law (shared by the laws of tubes). -/
namespace Law
open PySem L2 Evl Sk MP M10
local macro_rules | `(tactic| walk_at "sc") => `(tactic| first | omega | assumption | (with_reducible exact mulOk) | (with_reducible exact smOk) | (with_reducible exact ⟨by decide, smOk⟩) | decide | (simp only [List.length_cons, List.length_nil]; decide) | exact divOk (by omega))
section
variable {P : Program} {w : World} {K : PySem.W.Frag} {mg : Str → Option Value} {base : Heap}
theorem sm_of {x : Int} (h0 : -1000000 ≤ x) (h1 : x ≤ 1000000) : Sm x := by
  have := Bd.of (k := 20) (x := x) (by omega) (by omega)
  exact smOk
abbrev GpOk (gs : List (List Int)) : Prop := ∀ g ∈ gs, g.length = 4 ∧ ∀ y ∈ g, 1 ≤ y ∧ y ≤ 5
theorem GpOk.snoc {gs : List (List Int)} {g : List Int} (h : GpOk gs) (h1 : g.length = 4) (h2 : ∀ y ∈ g, 1 ≤ y ∧ y ≤ 5) : GpOk (gs ++ [g]) := fun x hx => by
  rcases List.mem_append.mp hx with z | z
  · exact h x z
  · rw [List.mem_singleton.mp z]
    exact ⟨h1, h2⟩
abbrev sp_rules (K : Fg) : Sp := sp1N K [] (fOne rAdr) (fun _ => True) (fun x => ⟨x, oSt, ()⟩) (oRec ruN ruF) fun _ y => RuOk y
abbrev N_rules : List Str := ["_law_state", "_law_lateral", "_law_vertical", "_law_rules_here", "_law_j", "_law_k"]
theorem sc_rules : FnScope N_rules ["_law_state"] (defScope s_rules) := ⟨rfl, rfl, rfl, by decide +kernel, rfl, by decide +kernel, by decide +kernel⟩
theorem ok_rules (N : Nm K mg) (T : Bt mg) : FnOk P w K mg base CX0 3 N.rules.f N.rules.fd ["_law_state"] (sp_rules K) := by
  refine fn_m N.rules.F sc_rules [] fun cdv A outer s G H E st Q fam hp hk => ?_
  have hk' : ∀ {Γ : Gm} {q : Addr} {d : RuV}, RuOk d → RT K ⟨[], _, G, H, []⟩ Γ [⟨q, oRec ruN ruF, d⟩, ⟨st, oSt, ()⟩] rAdr q _ := fun {Γ q d} e => hk ⟨d, e, rfl⟩
  clear hk
  have z1 : 100000 ≤ sizeLine := by decide
  have hc1 : ∀ {c : Int}, c ∈ [(3 : Int), 12, 60] → 3 ≤ c ∧ c ≤ 60 := fun {c} h => by
    simp only [List.mem_cons, List.not_mem_nil, or_false] at h
    omega
  have hc2 : ∀ {c : Int}, c ∈ [(3 : Int), 20, 60] → 3 ≤ c ∧ c ≤ 60 := fun {c} h => by
    simp only [List.mem_cons, List.not_mem_nil, or_false] at h
    omega
  show DS _ K ⟨[], _, G, H, []⟩ [some ⟨rAdr, st⟩, none, none, none, none, none] [⟨st, oSt, ()⟩] (defBody s_rules) _
  refine s_set 1 (d_bin (d_int (d_call N.draw (ok_draw N T) (da_cons (d_var 0 (da_one (d_call N.pick (ok_pick (ra := rInt) N T) (da_cons (d_var 0 (da_one (d_lst (ra := rInt) (da_all (d_int (da_all (d_int (da_all (d_int (da_all0 ⟨(by walk_at "sc"), (sw_1 ⟨by walk_at "sc", by walk_at "sc"⟩ (fun c hc => (sw_1 ⟨by have := hc1 hc; dsimp only; omega, by have := hc1 hc; exact sm_of (by dsimp only; omega) (by dsimp only; omega)⟩ (fun n hn => (o_add ?_)))))⟩))))))))))))))))))
  obtain ⟨a0, a1⟩ := hc1 hc
  obtain ⟨n0, n1⟩ := hn
  dsimp only at n1
  refine s_set 2 (d_bin (d_int (d_call N.draw (ok_draw N T) (da_cons (d_var 0 (da_one (d_call N.pick (ok_pick (ra := rInt) N T) (da_cons (d_var 0 (da_one (d_lst (ra := rInt) (da_all (d_int (da_all (d_int (da_all (d_int (da_all0 ⟨(by walk_at "sc"), (sw_1 ⟨by walk_at "sc", by walk_at "sc"⟩ (fun c2 hcc => (sw_1 ⟨by have := hc2 hcc; dsimp only; omega, by have := hc2 hcc; exact sm_of (by dsimp only; omega) (by dsimp only; omega)⟩ (fun m hm => (o_add ?_)))))⟩))))))))))))))))))
  obtain ⟨b0, b1⟩ := hc2 hcc
  obtain ⟨m0, m1⟩ := hm
  dsimp only at m1
  generalize el : 1 + n = lat
  generalize ev : 1 + m = ver
  refine s_set 3 (d_disp (ns := ruN4) (f := ruF4) ruN4_nd (fun i => pps_cons pe_str (WE.pe i) (pps_cons pe_str (WE.pe i) (pps_cons pe_str (WE.pe i) (pps_cons pe_str (WE.pe i) pps_nil)))) fun q hq => dd_cons (d_var 1 (dd_cons (d_var 2 (dd_cons (d_call N.draw (ok_draw N T) (da_cons (d_var 0 (da_one (d_int (sw_1 ⟨(by walk_at "sc"), (by walk_at "sc")⟩ (fun u1 hu1 => (dd_one (d_call N.draw (ok_draw N T) (da_cons (d_var 0 (da_one (d_int (sw_1 ⟨(by walk_at "sc"), (by walk_at "sc")⟩ (fun u2 hu2 => ⟨_, rfl, ?_⟩))))))))))))))))))))
  refine s_recNew (rc := rInt) (d_call N.draw (ok_draw N T) (da_cons (d_var 0 (da_one (d_int (sw_1 ⟨(by walk_at "sc"), (by walk_at "sc")⟩ (fun u3 hu3 => (d_var 3 ⟨_, _, inferInstance, ?_⟩))))))))
  refine s_recNew (rc := rInt) (d_call N.draw (ok_draw N T) (da_cons (d_var 0 (da_one (d_bin (d_bin (d_var 1 (d_int (o_add (d_int (o_div (divOk (by decide)) (sw_1 ⟨by dsimp only; omega, sm_of (by dsimp only; omega) (by dsimp only; omega)⟩ (fun u4 hu4 => (d_var 3 ⟨_, _, inferInstance, ?_⟩))))))))))))))
  refine s_recNew (rc := rInt) (d_call N.draw (ok_draw N T) (da_cons (d_var 0 (da_one (d_bin (d_bin (d_var 2 (d_int (o_add (d_int (o_div (divOk (by decide)) (sw_1 ⟨by dsimp only; omega, sm_of (by dsimp only; omega) (by dsimp only; omega)⟩ (fun u5 hu5 => (d_var 3 ⟨_, _, inferInstance, ?_⟩))))))))))))))
  refine s_recNew (rc := rInt) (d_call N.draw (ok_draw N T) (da_cons (d_var 0 (da_one (d_int (sw_1 ⟨(by walk_at "sc"), (by walk_at "sc")⟩ (fun u6 hu6 => (d_var 3 ⟨_, _, inferInstance, ?_⟩))))))))
  refine s_recNew (rc := rInt) (d_call N.draw (ok_draw N T) (da_cons (d_var 0 (da_one (d_int (sw_1 ⟨(by walk_at "sc"), (by walk_at "sc")⟩ (fun u7 hu7 => (d_var 3 ⟨_, _, inferInstance, ?_⟩))))))))
  refine s_recNew (rc := rInt) (d_bin (d_int (d_call N.draw (ok_draw N T) (da_cons (d_var 0 (da_one (d_int (sw_1 ⟨(by walk_at "sc"), (by walk_at "sc")⟩ (fun u8 hu8 => (o_add (d_var 3 ⟨_, _, inferInstance, ?_⟩)))))))))))
  refine s_recNew (rc := rInt) (d_call N.draw (ok_draw N T) (da_cons (d_var 0 (da_one (d_int (sw_1 ⟨(by walk_at "sc"), (by walk_at "sc")⟩ (fun u9 hu9 => (d_var 3 ⟨_, _, inferInstance, ?_⟩))))))))
  refine s_recNew (rc := rTpv (rTpv rInt)) (d_callT T.tuple bt_tuple (da_one (d_frzE (d_lcO (js := [4]) (ra := rInt) (rb := rTpv rInt) [("_law_j", 4)] [4] (fun _ => blkOk_by (N := N_rules) (sc := defScope s_rules) (by decide +kernel)) (w_rng1 T.range (d_int ⟨(by decide), ⟨Unit, fun i ys _ => ys.length = i ∧ i ≤ 4 ∧ GpOk ys, fun _ => _, ⟨(), ⟨rfl, Nat.zero_le _, fun g hg => absurd hg List.not_mem_nil⟩, rfl⟩, fun g D i x ys d hx hd => (g_name 4 (dts_nil ⟨fun _ => (d_callT T.tuple bt_tuple (da_one (d_frzE (d_lcO (js := [5]) (ra := rInt) (rb := rInt) [("_law_k", 5)] [5] (fun _ => blkOk_in (blkOk_by (N := N_rules) (by decide +kernel))) (w_rng1 T.range (d_int ⟨(by decide), ⟨Unit, fun i2 ys2 _ => ys2.length = i2 ∧ i2 ≤ 4 ∧ ∀ y ∈ ys2, 1 ≤ y ∧ y ≤ 5, fun _ => _, ⟨(), ⟨rfl, Nat.zero_le _, fun g hg => absurd hg List.not_mem_nil⟩, rfl⟩, fun g2 D2 i2 x2 ys2 d2 hx2 hd2 => (g_name 5 (dts_nil ⟨fun _ => (d_bin (d_int (d_call N.draw (ok_draw N T) (da_cons (d_var 0 (da_one (d_int (sw_1 (q := st) ⟨(by walk_at "sc"), (by walk_at "sc")⟩ (fun n9 hn9 => (o_add ⟨(), rfl, ?_, ?_⟩)))))))))), fun h => Bool.noConfusion h⟩)), fun D2 ys2 d2 hM2 hd2 => ⟨_, _, rfl, hM2, (c_tuple ⟨(), rfl, ?_, ?_⟩)⟩⟩⟩)))))), fun h => Bool.noConfusion h⟩)), fun D ys d hM hd => ⟨_, _, rfl, hM, (c_tuple (d_var 3 ⟨_, _, inferInstance, ?_⟩))⟩⟩⟩))))))
  · obtain ⟨q1, q2, _⟩ := hd2
    omega
  · obtain ⟨q1, q2, q3⟩ := hd2
    obtain ⟨p0, p1⟩ := hn9
    dsimp only at p1
    obtain ⟨hlt, _⟩ := rgI_item hx2
    have hlt : i2 < 4 := hlt
    refine ⟨by rw [List.length_append, q1]; rfl, by omega, fun y hy => ?_⟩
    rcases List.mem_append.mp hy with z | z
    · exact q3 y z
    · rw [List.mem_singleton.mp z]
      omega
  · obtain ⟨q1, q2, _⟩ := hd
    omega
  · obtain ⟨q1, q2, q3⟩ := hd
    obtain ⟨hlt, _⟩ := rgI_item hx
    have hlt : i < 4 := hlt
    obtain ⟨p1, p2, p3⟩ := hd2
    refine ⟨by rw [List.length_append, q1]; rfl, by omega, q3.snoc ?_ p3⟩
    rw [rgI_len] at p1
    exact p1
  · obtain ⟨q1, q2, q3⟩ := hd
    rw [rgI_len] at q1
    have e : ∀ {u b : Int}, (0 ≤ u ∧ u < b) → 0 ≤ u ∧ u < b := fun h => h
    have h1 := e hu1
    have h2 := e hu2
    have h3 := e hu3
    have h4 := e hu4
    have h5 := e hu5
    have h6 := e hu6
    have h7 := e hu7
    have h8 := e hu8
    have h9 := e hu9
    dsimp only at h1 h2 h3 h4 h5 h6 h7 h8 h9
    refine s_ret (d_var 3 (hk' ⟨?_, ?_, ?_, ?_, ?_, ?_, ?_, ?_, ?_, ?_, ?_, ?_, ?_⟩))
    · show 1 ≤ lat ∧ lat ≤ 60
      omega
    · show 1 ≤ ver ∧ ver ≤ 60
      omega
    · show 0 ≤ u1 ∧ u1 ≤ 3
      omega
    · show 0 ≤ u2 ∧ u2 ≤ 3
      omega
    · show 0 ≤ u3 ∧ u3 ≤ 3
      omega
    · show 0 ≤ u4 ∧ 2 * u4 < lat
      omega
    · show 0 ≤ u5 ∧ 2 * u5 < ver
      omega
    · show 0 ≤ u6 ∧ u6 ≤ 8
      omega
    · show 0 ≤ u7 ∧ u7 ≤ 8
      omega
    · show 1 ≤ 1 + u8 ∧ 1 + u8 ≤ 5
      omega
    · show 0 ≤ u9 ∧ u9 ≤ 8
      omega
    · exact q1
    · exact q3
end
end Law
set_option Elab.async false
set_option linter.all false
set_option maxRecDepth 100000
set_option maxHeartbeats 4100000
/-! LkK: kinds, rules, winds of the law (shared by the laws of tubes). -/
namespace Law
open PySem L2 Evl Sk MP M10
local macro_rules | `(tactic| walk_at "sc") => `(tactic| first | omega | assumption | (with_reducible exact mulOk) | (with_reducible exact smOk) | (with_reducible exact ⟨by decide, smOk⟩) | decide | (simp only [List.length_cons, List.length_nil]; decide) | exact divOk (by omega))
section
variable {P : Program} {w : World} {K : PySem.W.Frag} {mg : Str → Option Value} {base : Heap}
abbrev sp_kind (K : Fg) : Sp := sp1 K [] (fOne rAdr) (fun _ => True) (fun x => ⟨x, oSt, ()⟩) rK5 fun _ y => KdOk y
theorem sc_kind : FnScope ["_law_state", "_law_slow", "_law_least"] ["_law_state"] (defScope s_kind) := ⟨rfl, rfl, rfl, by decide +kernel, rfl, by decide +kernel, by decide +kernel⟩
theorem ok_kind (N : Nm K mg) (T : Bt mg) : FnOk P w K mg base CX0 3 N.kind.f N.kind.fd ["_law_state"] (sp_kind K) := by
  refine fn_m N.kind.F sc_kind [] fun cdv A outer s G H E st Q fam hp hk => ?_
  have hk' : ∀ {Γ : Gm} {d : K5}, KdOk d → RT K ⟨[], _, G, H, []⟩ Γ [⟨st, oSt, ()⟩] rK5 d _ := fun {Γ d} e => hk ⟨rfl, e⟩
  clear hk
  show DS _ K ⟨[], _, G, H, []⟩ [some ⟨rAdr, st⟩, none, none] [⟨st, oSt, ()⟩] (defBody s_kind) _
  have hc1 : ∀ {c : Int}, c ∈ [(8 : Int), 20, 60] → 8 ≤ c ∧ c ≤ 60 := fun {c} h => by
    simp only [List.mem_cons, List.not_mem_nil, or_false] at h
    omega
  refine s_set 1 (d_bin (d_int (d_call N.draw (ok_draw N T) (da_cons (d_var 0 (da_one (d_call N.pick (ok_pick (ra := rInt) N T) (da_cons (d_var 0 (da_one (d_lst (ra := rInt) (da_all (d_int (da_all (d_int (da_all (d_int (da_all0 ⟨(by walk_at "sc"), (sw_1 ⟨by walk_at "sc", by walk_at "sc"⟩ (fun c hc => (sw_1 ⟨by have := hc1 hc; dsimp only; omega, by have := hc1 hc; exact (Bd.of (k := 10) (x := c) (by omega) (by omega)).mono (by decide) |> fun h => ⟨h.lt⟩⟩ (fun n hn => (o_add ?_)))))⟩))))))))))))))))))
  obtain ⟨c0, c1⟩ := hc1 hc
  obtain ⟨n0, n1⟩ := hn
  dsimp only at n1
  refine s_set 2 (d_bin (d_int (d_call N.draw (ok_draw N T) (da_cons (d_var 0 (da_one (d_int (sw_1 ⟨(by walk_at "sc"), (by walk_at "sc")⟩ (fun n2 hn2 => (o_add ?_))))))))))
  obtain ⟨a0, a1⟩ := hn2
  dsimp only at a1
  refine s_ret (d_tup (da_cons (d_call N.draw (ok_draw N T) (da_cons (d_var 0 (da_one (d_int (sw_1 ⟨(by walk_at "sc"), (by walk_at "sc")⟩ (fun n3 hn3 => (da_cons (d_var 1 (da_cons (d_bin (d_var 1 (d_call N.draw (ok_draw N T) (da_cons (d_var 0 (da_one (d_int (sw_1 ⟨(by walk_at "sc"), (by walk_at "sc")⟩ (fun n4 hn4 => (o_add (da_cons (d_var 2 (da_one (d_bin (d_var 2 (d_call N.draw (ok_draw N T) (da_cons (d_var 0 (da_one (d_int (sw_1 ⟨(by walk_at "sc"), (by walk_at "sc")⟩ (fun n5 hn5 => (o_add (hk' ?_))))))))))))))))))))))))))))))))))))
  obtain ⟨b0, b1⟩ := hn3
  obtain ⟨d0, d1⟩ := hn4
  obtain ⟨e0, e1⟩ := hn5
  dsimp only at b1 d1 e1
  exact ⟨by dsimp only; omega, by dsimp only; omega, by dsimp only; omega, by dsimp only; omega, by dsimp only; omega⟩
end
end Law
set_option Elab.async false
set_option linter.all false
set_option maxRecDepth 100000
set_option maxHeartbeats 4100000
/-! LkW: kinds, rules, winds of the law (shared by the laws of tubes). -/
namespace Law
open PySem L2 Evl Sk MP M10
local macro_rules | `(tactic| walk_at "sc") => `(tactic| first | omega | assumption | (with_reducible exact mulOk) | (with_reducible exact smOk) | (with_reducible exact ⟨by decide, smOk⟩) | decide | (simp only [List.length_cons, List.length_nil]; decide) | exact divOk (by omega))
section
variable {P : Program} {w : World} {K : PySem.W.Frag} {mg : Str → Option Value} {base : Heap}
abbrev sp_winds (K : Fg) : Sp := sp1 K [] (fOne rAdr) (fun _ => True) (fun x => ⟨x, oSt, ()⟩) (rLst rWnd) fun _ y => WdOk y
theorem sc_winds : FnScope ["_law_state", "_law_winds_here", "_law_k", "_law_last"] ["_law_state"] (defScope s_winds) := ⟨rfl, rfl, rfl, by decide +kernel, rfl, by decide +kernel, by decide +kernel⟩
theorem WdOk.snoc {ws : List W4} {w : W4} (h : WdOk ws) (hl : ws.length < 1000) (hw : WnOk w) : WdOk (ws ++ [w]) := by
  have m : ∀ {p : W4 → Prop}, (∀ x ∈ ws, p x) → p w → ∀ x ∈ ws ++ [w], p x := fun {p} a b x hx => by
    rcases List.mem_append.mp hx with z | z
    · exact a x z
    · rw [List.mem_singleton.mp z]
      exact b
  refine ⟨by rw [List.length_append]; exact hl, ?_, m h.x0 hw.x, m h.y0 hw.y, m h.e0 hw.e⟩
  obtain ⟨w0, e1, e2⟩ := h.first
  exact ⟨w0, by rw [List.getElem?_append_left (List.getElem?_eq_some_iff.mp e1).1]; exact e1, e2⟩
theorem ok_winds (N : Nm K mg) (T : Bt mg) : FnOk P w K mg base CX0 2 N.winds.f N.winds.fd ["_law_state"] (sp_winds K) := by
  refine fn_m N.winds.F sc_winds [] fun cdv A outer s G H E st Q fam hp hk => ?_
  have hk' : ∀ {Γ : Gm} {d : List W4}, WdOk d → RT K ⟨[], _, G, H, []⟩ Γ [⟨st, oSt, ()⟩] (rLst rWnd) d _ := fun {Γ d} e => hk ⟨rfl, e⟩
  clear hk
  show DS _ K ⟨[], _, G, H, []⟩ [some ⟨rAdr, st⟩, none, none, none] [⟨st, oSt, ()⟩] (defBody s_winds) _
  refine s_set 1 (d_lstO (ra := rWnd) (da_all (d_tup (da_cons (d_int (da_cons (d_bin (d_call N.draw (ok_draw N T) (da_cons (d_var 0 (da_one (d_int (sw_1 ⟨(by walk_at "sc"), (by walk_at "sc")⟩ (fun n1_ hn1 => (d_int (o_sub (da_cons (d_bin (d_call N.draw (ok_draw N T) (da_cons (d_var 0 (da_one (d_int (sw_1 ⟨(by walk_at "sc"), (by walk_at "sc")⟩ (fun n2 hn2 => (d_int (o_sub (da_one (d_call N.draw (ok_draw N T) (da_cons (d_var 0 (da_one (d_int (sw_1 ⟨(by walk_at "sc"), (by walk_at "sc")⟩ (fun n3 hn3 => (da_all0 ⟨(by walk_at "sc"), fun q1 hq1 => ?_⟩))))))))))))))))))))))))))))))))))))
  obtain ⟨a0, a1⟩ := hn1
  obtain ⟨b0, b1⟩ := hn2
  obtain ⟨c0, c1⟩ := hn3
  dsimp only at a1 b1 c1
  refine s_for (js := [2]) (w_rng1 T.range (d_call N.draw (ok_draw N T) (da_cons (d_var 0 (da_one (d_int (sw_1 ⟨(by walk_at "sc"), (by walk_at "sc")⟩ (fun n hn => ⟨?_, ?_⟩))))))))
  · obtain ⟨n0, n1⟩ := hn
    dsimp only at n1
    omega
  obtain ⟨n0, n1⟩ := hn
  dsimp only at n1
  refine ⟨List W4, fun i d => i ≤ 3 ∧ d.length = i + 1 ∧ WdOk d, fun _ => [some ⟨rAdr, st⟩, some ⟨rAdr, q1⟩, none, none], fun d => [⟨q1, oLst rWnd, d⟩, ⟨st, oSt, ()⟩], ⟨[(0, n1_ - 3, n2 - 3, n3)], ⟨Nat.zero_le _, rfl, ?_⟩, ⟨rfl, rfl, trivial⟩, rfl⟩, fun g i x d hx hd => (g_name 2 ?_), fun d hd => ?_⟩
  · have m : ∀ {p : W4 → Prop}, p (0, n1_ - 3, n2 - 3, n3) → ∀ x ∈ [((0, n1_ - 3, n2 - 3, n3) : W4)], p x := fun {p} b x hx => by
      rw [List.mem_singleton.mp hx]
      exact b
    exact ⟨Nat.le_trans (Nat.le_refl 1) (by decide), ⟨_, rfl, rfl⟩, m (by dsimp only; omega), m (by dsimp only; omega), m (by dsimp only; omega)⟩
  · obtain ⟨hi, hd1, hd2⟩ := hd
    obtain ⟨hlt, _⟩ := rgI_item hx
    obtain ⟨lw, glw, mlw, _⟩ := atI_lt (xs := d) (i := (d.length : Int) - 1) (by omega) (by omega)
    refine s_set 3 (d_ix (d_var 1 (d_bin (d_callB T.len bt_len (da_one (d_var 1 (c_lenG (d_int (o_sub (i_ls glw ?_))))))))))
    refine s_expr (d_app (ra := rWnd) (d_var 1 ⟨_, _, inferInstance, (d_tup (da_cons (d_bin (d_bin (d_ix (d_var (ra := rWnd) (x := lw) 3 (d_int (i_tup 0 (d_int (o_add (d_call N.draw (ok_draw N T) (da_cons (d_var 0 (da_one (d_int (sw_1 ⟨(by walk_at "sc"), (by walk_at "sc")⟩ (fun m1 hm1 => (o_add (da_cons (d_bin (d_call N.draw (ok_draw N T) (da_cons (d_var 0 (da_one (d_int (sw_1 ⟨(by walk_at "sc"), (by walk_at "sc")⟩ (fun m2 hm2 => (d_int (o_sub (da_cons (d_bin (d_call N.draw (ok_draw N T) (da_cons (d_var 0 (da_one (d_int (sw_1 ⟨(by walk_at "sc"), (by walk_at "sc")⟩ (fun m3 hm3 => (d_int (o_sub (da_one (d_call N.draw (ok_draw N T) (da_cons (d_var 0 (da_one (d_int (sw_1 ⟨(by walk_at "sc"), (by walk_at "sc")⟩ (fun m4 hm4 => ⟨_, _, inferInstance, ?_, ?_⟩))))))))))))))))))))))))))))))))))))))))))))))))⟩))
    · have : 100000 ≤ sizeLine := by decide
      omega
    obtain ⟨e0, e1⟩ := hm2
    obtain ⟨f0, f1⟩ := hm3
    obtain ⟨g0, g1⟩ := hm4
    dsimp only at e1 f1 g1
    refine s_next (d ++ [(lw.1 + 1 + m1, m2 - 4, m3 - 4, m4)]) ⟨by omega, by rw [List.length_append, hd1]; rfl, hd2.snoc (by omega) ⟨by dsimp only; omega, by dsimp only; omega, by dsimp only; omega⟩⟩ ⟨rfl, rfl, trivial⟩ rfl
  · obtain ⟨hi, hd1, hd2⟩ := hd
    exact s_ret (d_var 1 (rt_done hq1 (hk' hd2)))
end
end Law
set_option Elab.async false
set_option linter.all false
set_option maxRecDepth 100000
set_option maxHeartbeats 4100000
/-! LwQ: the law's own legs, lengths, begins (shared by the laws of paths). -/
namespace Law
open PySem L2 Evl Sk MP
local macro_rules | `(tactic| walk_at "sc") => `(tactic| first | omega | assumption | (with_reducible exact mulOk) | (with_reducible exact smOk) | (with_reducible exact ⟨by decide, smOk⟩) | decide | (simp only [List.length_cons, List.length_nil]; decide) | exact divOk (by omega))
section
variable {P : Program} {w : World} {K : PySem.W.Frag} {mg : Str → Option Value} {base : Heap}
theorem head_find {α : Type} {l : List α} {p : α → Bool} {x : α} (h : l.find? p = some x) : (l.filter p)[0]? = some x := by
  rw [← List.head?_eq_getElem?, List.head?_filter]
  exact h
abbrev sp_leg (K : Fg) : Sp := spF K [] (fCons rChart (fCons rStr (fOne rStr))) (fun x => (lgOf x.1).length ≤ 1000 ∧ ∃ l, lgb (lgOf x.1) x.2.1 x.2.2 = some l) rLeg fun x => (lgb (lgOf x.1) x.2.1 x.2.2).getD dfl
abbrev N_leg : List Str := ["_law_chart_here", "_law_start_here", "_law_end", "_law_found", "_law_leg_here"]
theorem sc_leg : FnScope N_leg ["_law_chart_here", "_law_start_here", "_law_end"] (defScope s_leg) := ⟨rfl, rfl, rfl, by decide +kernel, rfl, by decide +kernel, by decide +kernel⟩
theorem ok_leg (N : Nm K mg) (T : Bt mg) : FnOk P w K mg base CX0 1 N.leg.f N.leg.fd ["_law_chart_here", "_law_start_here", "_law_end"] (sp_leg K) := by
  refine fn_m N.leg.F sc_leg [] fun cdv A outer s G H E x Q fam hp hk => ?_
  obtain ⟨ch, sn, en⟩ := x
  obtain ⟨hl, l, hlg⟩ := hp
  dsimp only at hl hlg
  have hsz : (lgOf ch).length ≤ sizeLine := Nat.le_trans hl (by decide)
  show DS _ K ⟨[], _, G, H, []⟩ [some ⟨rChart, ch⟩, some ⟨rStr, sn⟩, some ⟨rStr, en⟩, none, none] _ (defBody s_leg) _
  refine s_lcF 3 (js := [4]) (ra := rLeg) (rb := rLeg) (f := fun l : Leg => l) (g := fun l : Leg => decide (l.1 = sn) && decide (l.2.1 = en)) [("_law_leg_here", 4)] [4] (fun _ => blkOk_by (N := N_leg) (sc := defScope s_leg) (by decide +kernel)) (w_lst (d_recP 0 1 rfl chN_nd ⟨rfl, hsz, fun gg D ys x hx => (g_name 4 (dts_one (dt_then (dt_bool (dp_andP (dt_cmp (d_ix (d_var (ra := rLeg) (x := x) 4 (d_int (i_tup 0 (d_var 1 (o_eqS ⟨rfl, rfl⟩))))))) (fun hb => (dp_and1 (dt_cmp (d_ix (d_var (ra := rLeg) (x := x) 4 (d_int (i_tup 1 (d_var 2 (o_eqS ⟨rfl, rfl⟩))))))))))) ⟨rfl, rfl, fun hb => (d_var 4 ⟨rfl, rfl⟩)⟩))), ?_⟩))
  rw [List.map_id']
  have h0 : ((lgOf ch).filter fun l => decide (l.1 = sn) && decide (l.2.1 = en))[0]? = some l := head_find hlg
  have hpos := (List.getElem?_eq_some_iff.mp h0).1
  have ha : atI ((lgOf ch).filter fun l => decide (l.1 = sn) && decide (l.2.1 = en)) 0 = some l := atI_nat' (k := 0) h0
  refine s_ret (d_iteP (dt_cmp (d_callB T.len bt_len (da_one (d_var 3 (c_lenL (d_int (o_gt ⟨rfl, rfl⟩))))))) (fun hb => (d_ix (d_var 3 (d_int (i_lst ha (hk ⟨rfl, ?_⟩)))))) (fun hb => ?_))
  · show l = (lgb (lgOf ch) sn en).getD dfl
    rw [hlg]
    rfl
  · exfalso
    have := of_decide_eq_false hb
    omega
end
end Law
set_option Elab.async false
set_option linter.all false
set_option maxRecDepth 100000
set_option maxHeartbeats 4100000
/-! LkC: winds, bounds, targets by the law (shared by the laws of tubes). -/
namespace Law
open PySem L2 Evl Sk MP M10
local macro_rules | `(tactic| walk_at "sc") => `(tactic| first | omega | assumption | (with_reducible exact mulOk) | (with_reducible exact smOk) | (with_reducible exact ⟨by decide, smOk⟩) | decide | (simp only [List.length_cons, List.length_nil]; decide) | exact divOk (by omega))
section
variable {P : Program} {w : World} {K : PySem.W.Frag} {mg : Str → Option Value} {base : Heap}
abbrev sp_wind_at (K : Fg) : Sp := spF K [] (fCons (rLst rWnd) (fOne rInt)) (fun x => (∃ w, x.1[0]? = some w ∧ w.1 ≤ x.2) ∧ x.1.length ≤ 1000) rWnd fun x => windAt x.1 x.2
abbrev N_wind_at : List Str := ["_law_winds_here", "_law_tick", "_law_wind"]
theorem sc_wind_at : FnScope N_wind_at ["_law_winds_here", "_law_tick"] (defScope s_wind_at) := ⟨rfl, rfl, rfl, by decide +kernel, rfl, by decide +kernel, by decide +kernel⟩
theorem ok_wind_at (N : Nm K mg) (T : Bt mg) : FnOk P w K mg base CX0 1 N.wind_at.f N.wind_at.fd ["_law_winds_here", "_law_tick"] (sp_wind_at K) := by
  refine fn_m N.wind_at.F sc_wind_at [] fun cdv A outer s G H E x Q fam hp hk => ?_
  obtain ⟨ws, t⟩ := x
  obtain ⟨⟨w0, h0, h1⟩, hl⟩ := hp
  dsimp only at h0 h1 hl
  have ha : atI ((ws.filter fun w => decide (w.1 ≤ t)).map fun w : W4 => w) (-1) = some (windAt ws t) := by
    rw [List.map_id']
    exact atI_last (wind_last h0 h1)
  show DS _ K ⟨[], _, G, H, []⟩ [some ⟨(rLst rWnd), ws⟩, some ⟨rInt, t⟩, none] _ (defBody s_wind_at) _
  exact s_ret (d_ix (d_lcF (js := [2]) (ra := rWnd) (rb := rWnd) (f := fun w : W4 => w) (g := fun w : W4 => decide (w.1 ≤ t)) [("_law_wind", 2)] [2] (fun _ => blkOk_by (N := N_wind_at) (sc := defScope s_wind_at) (by decide +kernel)) (w_lst (d_var 0 ⟨rfl, Nat.le_trans hl (by decide), fun gg D ys x hx => (g_name 2 (dts_one (dt_then (dt_cmp (d_ix (d_var (ra := rWnd) (x := x) 2 (d_int (i_tup 0 (d_var 1 (o_le ⟨rfl, rfl⟩))))))) ⟨rfl, rfl, fun hb => (d_var 2 ⟨rfl, rfl⟩)⟩))), (d_un (d_int (u_neg (i_lst ha (hk ⟨rfl, rfl⟩)))))⟩))))
structure BnOk (x : ChV × List Str × List Int × Int × Int × Int × W4) : Prop where
  rt : RtV x.1 x.2.1
  st : Strict (fxOf x.1) x.2.1
  bs : x.2.2.1 = begins (fxOf x.1) x.2.1
  i0 : 0 ≤ x.2.2.2.1
  i1 : x.2.2.2.1.toNat + 1 < x.2.1.length
  wn : WnOk x.2.2.2.2.2.2
abbrev sp_bounds (K : Fg) : Sp := spF K [] (fCons rChart (fCons (rTpv rStr) (fCons (rLst rInt) (fCons rInt (fCons rInt (fCons rInt (fOne rWnd))))))) BnOk rPr fun x => bnd (fxOf x.1) x.2.1 x.2.2.2.2.1 x.2.2.2.2.2.1 x.2.2.2.2.2.2 x.2.2.2.1.toNat
theorem sc_bounds : FnScope ["_law_chart_here", "_law_route", "_law_begins_here", "_law_k", "_law_speed", "_law_slip", "_law_wind", "_law_a", "_law_b", "_law_length", "_law_push", "_law_doubt"] ["_law_chart_here", "_law_route", "_law_begins_here", "_law_k", "_law_speed", "_law_slip", "_law_wind"] (defScope s_bounds) := ⟨rfl, rfl, rfl, by decide +kernel, rfl, by decide +kernel, by decide +kernel⟩
theorem ok_bounds (N : Nm K mg) (T : Bt mg) : FnOk P w K mg base CX0 1 N.bounds.f N.bounds.fd ["_law_chart_here", "_law_route", "_law_begins_here", "_law_k", "_law_speed", "_law_slip", "_law_wind"] (sp_bounds K) := by
  refine fn_m N.bounds.F sc_bounds [] fun cdv A outer s G H E x Q fam hp hk => ?_
  obtain ⟨ch, r, bs, i, sd, sl, tk, wx, wy, er⟩ := x
  obtain ⟨hr, hst, hbs, h0, h1, hw⟩ := hp
  dsimp only at hr hst hbs h0 h1 hw
  subst hbs
  have e1 : (i + 1).toNat = i.toNat + 1 := by omega
  have g1 := atI_int h0 (at_get (show i.toNat < r.length by omega))
  have g2 := atI_int (show 0 ≤ i + 1 by omega) (by rw [e1]; exact at_get h1)
  have g3 := atI_int h0 (bg_get (fx := fxOf ch) (show i.toNat < r.length by omega))
  have g4 := atI_int (show 0 ≤ i + 1 by omega) (by rw [e1]; exact bg_get (fx := fxOf ch) h1)
  obtain ⟨a, ha, oa⟩ := hr.fx _ (at_mem (show i.toNat < r.length by omega))
  obtain ⟨b, hb, ob⟩ := hr.fx _ (at_mem h1)
  have l2 := bg_lt hst h1
  have l1 := hr.lnLe h1
  have c3 : Bd 30 (b.1 - a.1) := Bd.of (by have := oa.x1; have := ob.x0; omega) (by have := oa.x0; have := ob.x1; omega)
  have c4 : Bd 30 (b.2 - a.2) := Bd.of (by have := oa.y1; have := ob.y0; omega) (by have := oa.y0; have := ob.y1; omega)
  have c5 : Bd 30 (bg (fxOf ch) r (i.toNat + 1) - bg (fxOf ch) r i.toNat) := Bd.of (by omega) (by omega)
  obtain ⟨x1, x2⟩ := hw.x
  obtain ⟨y1, y2⟩ := hw.y
  obtain ⟨z1, z2⟩ := hw.e
  dsimp only at x1 x2 y1 y2 z1 z2
  have c6 : Bd 20 wx := Bd.of (by omega) (by omega)
  have c7 : Bd 20 wy := Bd.of (by omega) (by omega)
  have c8 : Bd 20 er := Bd.of (by omega) (by omega)
  have hlen : 0 < bg (fxOf ch) r (i.toNat + 1) - bg (fxOf ch) r i.toNat := by omega
  show DS _ K ⟨[], _, G, H, []⟩ [some ⟨rChart, ch⟩, some ⟨(rTpv rStr), r⟩, some ⟨(rLst rInt), begins (fxOf ch) r⟩, some ⟨rInt, i⟩, some ⟨rInt, sd⟩, some ⟨rInt, sl⟩, some ⟨rWnd, (tk, wx, wy, er)⟩, none, none, none, none, none] _ (defBody s_bounds) _
  refine s_set 7 (d_dk (rc := rPt) (d_recP 0 0 rfl chN_nd (d_keyS (d_ix (d_var 1 (d_var 3 (i_tpv g1 ⟨_, a, inferInstance, ha, ?_⟩)))))))
  refine s_set 8 (d_dk (rc := rPt) (d_recP 0 0 rfl chN_nd (d_keyS (d_ix (d_var 1 (d_bin (d_var 3 (d_int (o_add (i_tpv g2 ⟨_, b, inferInstance, hb, ?_⟩))))))))))
  refine s_set 9 (d_bin (d_ix (d_var 2 (d_bin (d_var 3 (d_int (o_add (i_lst g4 (d_ix (d_var 2 (d_var 3 (i_lst g3 (o_sub ?_)))))))))))))
  refine s_set 10 (d_bin (d_bin (d_ix (d_var (ra := rWnd) (x := (tk, wx, wy, er)) 6 (d_int (i_tup 1 (d_bin (d_ix (d_var (ra := rPt) (x := b) 8 (d_int (i_tup 0 (d_ix (d_var (ra := rPt) (x := a) 7 (d_int (i_tup 0 (o_sub (o_mul (by walk_at "sc") (d_bin (d_ix (d_var (ra := rWnd) (x := (tk, wx, wy, er)) 6 (d_int (i_tup 2 (d_bin (d_ix (d_var (ra := rPt) (x := b) 8 (d_int (i_tup 1 (d_ix (d_var (ra := rPt) (x := a) 7 (d_int (i_tup 1 (o_sub (o_mul (by walk_at "sc") (o_add ?_))))))))))))))))))))))))))))))))))
  refine s_set 11 (d_bin (d_ix (d_var (ra := rWnd) (x := (tk, wx, wy, er)) 6 (d_int (i_tup 3 (d_bin (d_callB T.abs bt_abs (da_one (d_bin (d_ix (d_var (ra := rPt) (x := b) 8 (d_int (i_tup 0 (d_ix (d_var (ra := rPt) (x := a) 7 (d_int (i_tup 0 (o_sub (c_abs (d_callB T.abs bt_abs (da_one (d_bin (d_ix (d_var (ra := rPt) (x := b) 8 (d_int (i_tup 1 (d_ix (d_var (ra := rPt) (x := a) 7 (d_int (i_tup 1 (o_sub (c_abs (o_add (o_mul (by walk_at "sc") ?_))))))))))))))))))))))))))))))))))
  refine s_ret (d_tup (da_cons (d_bin (d_bin (d_var 4 (d_var 5 (o_sub (d_bin (d_bin (d_var 10 (d_var 11 (o_sub (d_var 9 (o_div (divOk hlen) (o_add (da_one (d_bin (d_bin (d_var 4 (d_var 5 (o_add (d_bin (d_bin (d_var 10 (d_var 11 (o_add (d_var 9 (o_div (divOk hlen) (o_add (hk ⟨rfl, ?_⟩))))))))))))))))))))))))))))))
  dsimp only
  unfold bnd vec stpB push doubt
  rw [pt_of ha, pt_of hb]
structure TgOk (x : ChV × List Str × Int × Int) : Prop where
  ch : ChOk x.1
  rt : RtV x.1 x.2.1
  i0 : 0 ≤ x.2.2.1
  i1 : x.2.2.1.toNat + 1 < x.2.1.length
theorem lgAt_eq (legs : List Leg) (r : List Str) (k : Nat) : (lgb legs (at_ r k) (at_ r (k + 1))).getD dfl = lgAt legs r k := rfl
abbrev sp_target (K : Fg) : Sp := spF K [] (fCons rChart (fCons (rTpv rStr) (fCons rInt (fOne rInt)))) TgOk rInt fun x => tgt (lgOf x.1) x.2.1 x.2.2.2 x.2.2.1.toNat
theorem sc_target : FnScope ["_law_chart_here", "_law_route", "_law_k", "_law_level", "_law_leg_here", "_law_after"] ["_law_chart_here", "_law_route", "_law_k", "_law_level"] (defScope s_target) := ⟨rfl, rfl, rfl, by decide +kernel, rfl, by decide +kernel, by decide +kernel⟩
theorem ok_target (N : Nm K mg) (T : Bt mg) : FnOk P w K mg base CX0 2 N.target.f N.target.fd ["_law_chart_here", "_law_route", "_law_k", "_law_level"] (sp_target K) := by
  refine fn_m N.target.F sc_target [] fun cdv A outer s G H E x Q fam hp hk => ?_
  obtain ⟨ch, r, i, lv⟩ := x
  obtain ⟨hc, hr, h0, h1⟩ := hp
  dsimp only at hc hr h0 h1
  have hk' : ∀ {Γ : Gm} {d : Int}, d = tgt (lgOf ch) r lv i.toNat → RT K ⟨[], _, G, H, []⟩ Γ [] rInt d _ := fun {Γ d} e => hk ⟨rfl, e⟩
  clear hk
  unfold tgt at hk'
  have e1 : (i + 1).toNat = i.toNat + 1 := by omega
  have e2 : (i + 2).toNat = i.toNat + 2 := by omega
  have g1 := atI_int h0 (at_get (show i.toNat < r.length by omega))
  have g2 := atI_int (show 0 ≤ i + 1 by omega) (by rw [e1]; exact at_get h1)
  obtain ⟨l, hl⟩ := hr.lg _ h1
  show DS _ K ⟨[], _, G, H, []⟩ [some ⟨rChart, ch⟩, some ⟨(rTpv rStr), r⟩, some ⟨rInt, i⟩, some ⟨rInt, lv⟩, none, none] [] (defBody s_target) _
  refine s_set 4 (d_call N.leg (ok_leg N T) (da_cons (d_var 0 (da_cons (d_ix (d_var 1 (d_var 2 (i_tpv g1 (da_one (d_ix (d_var 1 (d_bin (d_var 2 (d_int (o_add (i_tpv g2 (sw_f ⟨hc.len, l, hl⟩ ?_)))))))))))))))))
  dsimp only
  rw [lgAt_eq]
  refine s_set 3 (d_callB T.min bt_min (da_cons (d_callB T.max bt_max (da_cons (d_var 3 (da_one (d_ix (d_var (ra := rLeg) (x := lgAt (lgOf ch) r i.toNat) 4 (d_int (i_tup 3 (c_max2 (da_one (d_ix (d_var (ra := rLeg) (x := lgAt (lgOf ch) r i.toNat) 4 (d_int (i_tup 4 (c_min2 ?_)))))))))))))))))
  refine s_ifP (x := decide (i + 2 < (r.length : Int))) (dt_cmp (d_bin (d_var 2 (d_int (o_add (d_callB T.len bt_len (da_one (d_var 1 (c_lenT (o_lt ⟨rfl, rfl⟩)))))))))) (fun hb => ?_) (fun hb => ?_)
  · have hb' := of_decide_eq_true hb
    have h3 : i.toNat + 2 < r.length := by omega
    have g3 := atI_int (show 0 ≤ i + 2 by omega) (by rw [e2]; exact at_get h3)
    obtain ⟨l2, hl2⟩ := hr.lg (i.toNat + 1) (by omega)
    refine s_set 5 (d_call N.leg (ok_leg N T) (da_cons (d_var 0 (da_cons (d_ix (d_var 1 (d_bin (d_var 2 (d_int (o_add (i_tpv g2 (da_one (d_ix (d_var 1 (d_bin (d_var 2 (d_int (o_add (i_tpv g3 (sw_f ⟨hc.len, l2, hl2⟩ ?_))))))))))))))))))))
    dsimp only
    rw [show (lgb (lgOf ch) (at_ r (i.toNat + 1)) (at_ r (i.toNat + 2))).getD dfl = lgAt (lgOf ch) r (i.toNat + 1) from rfl]
    refine s_set 3 (d_callB T.min bt_min (da_cons (d_callB T.max bt_max (da_cons (d_var 3 (da_one (d_ix (d_var (ra := rLeg) (x := lgAt (lgOf ch) r (i.toNat + 1)) 5 (d_int (i_tup 3 (c_max2 (da_one (d_ix (d_var (ra := rLeg) (x := lgAt (lgOf ch) r (i.toNat + 1)) 5 (d_int (i_tup 4 (c_min2 ?_)))))))))))))))))
    refine s_out (s_ret (d_var 3 (hk' ?_)))
    rw [if_pos h3]
    rfl
  · have hb' := of_decide_eq_false hb
    refine s_out (s_ret (d_var 3 (hk' ?_)))
    rw [if_neg (show ¬ i.toNat + 2 < r.length by omega)]
    rfl
abbrev sp_towards (K : Fg) : Sp := spF K [] (fCons rInt (fCons rInt (fOne rInt))) (fun _ => True) rInt fun x => tow x.1 x.2.1 x.2.2
theorem sc_towards : FnScope ["_law_level", "_law_goal", "_law_rate"] ["_law_level", "_law_goal", "_law_rate"] (defScope s_towards) := ⟨rfl, rfl, rfl, by decide +kernel, rfl, by decide +kernel, by decide +kernel⟩
theorem ok_towards (N : Nm K mg) (T : Bt mg) : FnOk P w K mg base CX0 1 N.towards.f N.towards.fd ["_law_level", "_law_goal", "_law_rate"] (sp_towards K) := by
  refine fn_m N.towards.F sc_towards [] fun cdv A outer s G H E x Q fam hp hk => ?_
  obtain ⟨lv, g, rt⟩ := x
  show DS _ K ⟨[], _, G, H, []⟩ [some ⟨rInt, lv⟩, some ⟨rInt, g⟩, some ⟨rInt, rt⟩] _ (defBody s_towards) _
  refine s_ifP (dt_cmp (d_var 0 (d_var 1 (o_lt ⟨rfl, rfl⟩)))) (fun hb => ?_) (fun hb => ?_)
  · refine s_ret (d_callB T.min bt_min (da_cons (d_bin (d_var 0 (d_var 2 (o_add (da_one (d_var 1 (c_min2 (hk ⟨rfl, ?_⟩))))))))))
    unfold tow
    dsimp only
    rw [if_pos (of_decide_eq_true hb)]
  · refine s_out (s_ret (d_callB T.max bt_max (da_cons (d_bin (d_var 0 (d_var 2 (o_sub (da_one (d_var 1 (c_max2 (hk ⟨rfl, ?_⟩)))))))))))
    unfold tow
    dsimp only
    rw [if_neg (of_decide_eq_false hb)]
end
end Law
set_option Elab.async false
set_option linter.all false
set_option maxRecDepth 100000
set_option maxHeartbeats 4100000
/-! CrA: winds, targets, levels of a course (shared by the laws of tubes). -/
namespace Law
open PySem L2 Evl Sk MP M10
local macro_rules | `(tactic| walk_at "sc") => `(tactic| first | omega | assumption | (with_reducible exact mulOk) | (with_reducible exact smOk) | (with_reducible exact ⟨by decide, smOk⟩) | decide | (simp only [List.length_cons, List.length_nil]; decide) | exact divOk (by omega))
end Law
set_option Elab.async false
set_option linter.all false
set_option maxRecDepth 100000
set_option maxHeartbeats 4100000
/-! CrB: the next box (shared by the laws of tubes). -/
namespace Law
open PySem L2 Evl Sk MP M10
local macro_rules | `(tactic| walk_at "sc") => `(tactic| first | omega | assumption | (with_reducible exact mulOk) | (with_reducible exact smOk) | (with_reducible exact ⟨by decide, smOk⟩) | decide | (simp only [List.length_cons, List.length_nil]; decide) | exact divOk (by omega))
end Law
set_option Elab.async false
set_option linter.all false
set_option maxRecDepth 100000
set_option maxHeartbeats 4100000
/-! LwS: small charts of the law (shared by the laws of tubes and radar). -/
namespace Law
open PySem L2 Evl Sk MP M10
local macro_rules | `(tactic| walk_at "sc") => `(tactic| first | omega | assumption | (with_reducible exact mulOk) | (with_reducible exact smOk) | (with_reducible exact ⟨by decide, smOk⟩) | decide | (simp only [List.length_cons, List.length_nil]; decide) | exact divOk (by omega))
section
variable {P : Program} {w : World} {K : PySem.W.Frag} {mg : Str → Option Value} {base : Heap}
theorem ChQ.add {c : ChV} {m : Int} {ns : List Str} (h : ChQ c m ns) (hl : (lgOf c).length ≤ 90) {l : Leg} (h1 : l.1 ∈ ns) (h2 : l.2.1 ∈ ns) (h3 : PyData.strOk l.2.2.1 = true) (h4 : l.1 ≠ l.2.1) : ChQ (((fxOf c, lgOf c ++ [l], c.1.1.2.2), hrOf c), c.2) m ns where
  l2 := h.l2
  l12 := h.l12
  nd := h.nd
  so := h.so
  ne := h.ne
  ky := h.ky
  fx := h.fx
  li := h.li.snoc h1 h2 h3 h4
  ll := by
    show (lgOf c ++ [l]).length ≤ 100
    rw [List.length_append]
    exact Nat.le_trans (Nat.succ_le_succ hl) (by decide)
abbrev sp_small_chart (K : Fg) : Sp := spM K [] (fOne rAdr) (fun _ => True) (fun x => [⟨x, oSt, ()⟩]) rAdr fun x q O' => ∃ c ns m ql qh, (ChQ c m ns ∧ hrOf c = [] ∧ 0 < (lgOf c).length) ∧ O' = chOwn c q ql qh ++ [⟨x, oSt, ()⟩]
theorem sw_small {B : Bs} {Γ : Gm} {O : List Own} {x : Addr} {f : Own → List Own} {Φ : Addr → List Own → Prop} [ho : OwnAt O x oSt () f]
    (h : ∀ q c ns m ql qh, ChQ c m ns → hrOf c = [] → 0 < (lgOf c).length → q ∉ B.M → ql ∉ B.M → qh ∉ B.M → Φ q (⟨q, oRec chN chFO, chO c ql qh⟩ :: ⟨ql, oLst rLeg, lgOf c⟩ :: ⟨qh, oLst rHour, hrOf c⟩ :: O)) : SW K B Γ O (sp_small_chart K) [] (fOne rAdr) x rAdr Φ :=
  sw_gF (ho := ho) (own := fun x : Addr => ⟨x, oSt, ()⟩) trivial (fun q O' ⟨c, ns, m, ql, qh, ⟨h1, h2, h3⟩, e⟩ => ⟨chOwn c q ql qh, e, fun hf => h q c ns m ql qh h1 h2 h3 (hf ⟨q, _, _⟩ List.mem_cons_self) (hf ⟨ql, _, _⟩ (List.mem_cons_of_mem _ List.mem_cons_self)) (hf ⟨qh, _, _⟩ (List.mem_cons_of_mem _ (List.mem_cons_of_mem _ List.mem_cons_self)))⟩) rfl (fun _ h => by cases h)
theorem sc_small_chart : FnScope ["_law_state", "_law_chart_here", "_law_names_here"] ["_law_state"] (defScope s_small_chart) := ⟨rfl, rfl, rfl, by decide +kernel, rfl, by decide +kernel, by decide +kernel⟩
theorem ok_small_chart (N : Nm K mg) (T : Bt mg) : FnOk P w K mg base CX0 5 N.small_chart.f N.small_chart.fd ["_law_state"] (sp_small_chart K) := by
  refine fn_m N.small_chart.F sc_small_chart [] fun cdv A outer s G H E st Q fam hp hk => ?_
  have hk' : ∀ {Γ : Gm} {c : ChV} {m : Int} {ns : List Str} {q ql qh : Addr}, ChQ c m ns → hrOf c = [] → 0 < (lgOf c).length → RT K ⟨[], _, G, H, []⟩ Γ (chOwn c q ql qh ++ [⟨st, oSt, ()⟩]) rAdr q _ := fun {Γ c m ns q ql qh} e e2 e3 => hk ⟨c, ns, m, ql, qh, ⟨e, e2, e3⟩, rfl⟩
  clear hk
  have z1 : 100000 ≤ sizeLine := by decide
  have hc3 : ∀ {c : Int}, c ∈ [(2 : Int), 9, 9, 40] → 0 ≤ c ∧ c ≤ 20000 := fun {c} h => by
    simp only [List.mem_cons, List.not_mem_nil, or_false] at h
    omega
  show DS _ K ⟨[], _, G, H, []⟩ [some ⟨rAdr, st⟩, none, none] [⟨st, oSt, ()⟩] (defBody s_small_chart) _
  refine s_set 1 (d_call N.chart (ok_chart N T) (da_cons (d_var 0 (da_cons (d_bin (d_int (d_call N.draw (ok_draw N T) (da_cons (d_var 0 (da_one (d_int (sw_1 (q := st) ⟨(by walk_at "sc"), (by walk_at "sc")⟩ (fun n hn => (o_add (da_one (d_call N.pick (ok_pick (ra := rInt) N T) (da_cons (d_var 0 (da_one (d_lst (ra := rInt) (da_all (d_int (da_all (d_int (da_all (d_int (da_all (d_int (da_all0 ⟨(by walk_at "sc"), (sw_1 (q := st) ⟨by walk_at "sc", by walk_at "sc"⟩ (fun c hc => (sw_chart ⟨⟨?_, ?_⟩, hc3 hc⟩ (fun q ch ns ql qh hch hh hq hl hh2 => ?_))))⟩)))))))))))))))))))))))))))))
  · obtain ⟨n0, n1⟩ := hn
    dsimp only at n1 ⊢
    omega
  · obtain ⟨n0, n1⟩ := hn
    dsimp only at n1 ⊢
    omega
  clear hc
  dsimp only at hch
  obtain ⟨⟨⟨fx, lg, zo, rw_, hol⟩, hr⟩, cp⟩ := ch
  have hlg : lg.length ≤ 100 := hch.ll
  simp only [chOwn, chO, List.cons_append, List.nil_append]
  refine s_ifP (x := decide ((lg.length : Int) = 0)) (dt_cmp (d_callB T.len bt_len (da_one (d_recV 1 1 rfl chN_nd (c_lenG (d_int (o_eqI ⟨rfl, rfl⟩))))))) (fun hb => ?_) (fun hb => ?_)
  · have hb' := of_decide_eq_true hb
    have h0 : lg = [] := List.length_eq_zero_iff.mp (by omega)
    subst h0
    have l2 := hch.l2
    have l12 := hch.l12
    refine s_set 2 (d_callB T.sorted bt_sorted (da_one (d_recV 1 0 rfl chN_nd (c_sortedD (rb := rPt) (ks := ns) hch.ky (by omega) (fun ys hys _ => ?_)))))
    have hyl : ys.length = ns.length := hys.length_eq
    have hyn : ys.Nodup := hys.nodup_iff.mpr hch.nd
    have g0 : ys[0]? = some ys[0] := List.getElem?_eq_getElem (by omega)
    have g1 : ys[1]? = some ys[1] := List.getElem?_eq_getElem (by omega)
    have m0 : ys[0] ∈ ns := hys.mem_iff.mp (List.getElem_mem (by omega))
    have m1 : ys[1] ∈ ns := hys.mem_iff.mp (List.getElem_mem (by omega))
    have hne : ys[0] ≠ ys[1] := nd_ne hyn g0 g1 (by decide)
    generalize ys[0] = n0 at g0 m0 hne
    generalize ys[1] = n1 at g1 m1 hne
    refine s_expr (d_app (ra := rLeg) (d_recV 1 1 rfl chN_nd ⟨_, _, inferInstance, (d_tup (da_cons (d_ix (d_var 2 (d_int (i_lst (atI_nat' (k := 0) g0) (da_cons (d_ix (d_var 2 (d_int (i_lst (atI_nat' (k := 1) g1) (da_cons (d_str (da_cons (d_int (da_one (d_int ⟨_, _, inferInstance, ?_, ?_⟩)))))))))))))))))⟩))
    · show 0 < sizeLine
      omega
    have h5 := hch.add (Nat.zero_le _) (l := (n0, n1, "N", 0, 600)) m0 m1 (by dsimp only; decide +kernel) hne
    exact s_out (s_ret (d_var 1 (hk' h5 hh (Nat.succ_pos _))))
  · have hb' := of_decide_eq_false hb
    exact s_out (s_ret (d_var 1 (hk' hch hh (by show 0 < lg.length; omega))))
end
end Law
set_option Elab.async false
set_option linter.all false
set_option maxRecDepth 100000
set_option maxHeartbeats 4100000
/-! MT: tubes, plainly. -/
namespace MP
open PySem L2 Evl Sk M10
abbrev Hr' := Str × Str × Int × Int
/-- the leg is shut by the hour -/
def hrM (l : Leg) (t : Int) (h : Hr') : Bool := decide (h.1 = l.1) && (decide (h.2.1 = l.2.1) && (decide (h.2.2.1 ≤ t) && decide (t ≤ h.2.2.2)))
def shutK (hs : List Hr') (l : Leg) (t : Int) : Bool := hs.any (hrM l t)
/-- leg k is below the box -/
def OnB (fx : Fx) (r : List Str) (b : B4) (k : Nat) : Prop := 0 ≤ b.2.1 ∧ la fx r (mx b.1 0) ≤ k ∧ k ≤ la fx r b.2.1
def below (fx : Fx) (r : List Str) (b : B4) : List Int := if b.2.1 < 0 then [] else rgI (la fx r (mx b.1 0) : Int) 1 ((la fx r b.2.1 : Int) + 1 - (la fx r (mx b.1 0) : Int)).toNat
theorem below_get {fx : Fx} {r : List Str} {b : B4} {i : Nat} {x : Int} (h : (below fx r b)[i]? = some x) : ∃ k : Nat, x = (k : Int) ∧ OnB fx r b k ∧ k = la fx r (mx b.1 0) + i := by
  unfold below at h
  by_cases z : b.2.1 < 0
  · rw [if_pos z] at h
    simp at h
  · rw [if_neg z] at h
    obtain ⟨h1, h2⟩ := rgI_item h
    exact ⟨la fx r (mx b.1 0) + i, by omega, ⟨by omega, by omega, by omega⟩, rfl⟩
theorem below_of {fx : Fx} {r : List Str} {b : B4} {k : Nat} (h : OnB fx r b k) : ∃ i, i < (below fx r b).length ∧ k = la fx r (mx b.1 0) + i := by
  obtain ⟨h1, h2, h3⟩ := h
  refine ⟨k - la fx r (mx b.1 0), ?_, by omega⟩
  unfold below
  rw [if_neg (by omega), rgI_len]
  omega
theorem below_len {fx : Fx} {r : List Str} (h2 : 2 ≤ r.length) (b : B4) : (below fx r b).length ≤ r.length := by
  unfold below
  split
  · exact Nat.zero_le _
  · rw [rgI_len]
    have := Law.la_lt (fx := fx) h2 b.2.1
    omega
def LvOk (fx : Fx) (legs : List Leg) (r : List Str) (b : B4) : Prop := ∀ k, OnB fx r b k → (lgAt legs r k).2.2.2.1 ≤ b.2.2.1 ∧ b.2.2.2 ≤ (lgAt legs r k).2.2.2.2
def HrOk (fx : Fx) (legs : List Leg) (r : List Str) (hs : List Hr') (t : Int) (b : B4) : Prop := ∀ k, OnB fx r b k → shutK hs (lgAt legs r k) t = false
def HwOk (n : NbIn) (b : B4) : Prop := ∀ k, la n.fx n.r b.1 ≤ k → k ≤ la n.fx n.r b.2.1 → 1 ≤ (bnd n.fx n.r n.sp n.sl n.w k).1
structure TbIn where
  fx : Fx
  legs : List Leg
  r : List Str
  sp : Int
  lv : Int
  kd : K5
  sl : Int
  ws : List W4
  hs : List Hr'
def TbIn.nb (n : TbIn) (t : Int) : NbIn := ⟨n.fx, n.legs, n.r, n.sp, n.lv, n.kd, n.sl, windAt n.ws t⟩
structure St3 (n : TbIn) (t : Int) (b : B4) : Prop where
  lv : LvOk n.fx n.legs n.r b
  hr : HrOk n.fx n.legs n.r n.hs t b
  hw : HwOk (n.nb t) b
/-- the boxes so far, the box of now -/
inductive TubeSt (n : TbIn) (t0 : Int) (b0 : B4) : List B4 → B4 → Prop
  | nil : TubeSt n t0 b0 [] b0
  | snoc {bs : List B4} {b b' : B4} (h : TubeSt n t0 b0 bs b) (lt : b.1 < tot n.fx n.r) (len : bs.length < 240) (ok : St3 n (t0 + bs.length) b) (nx : NbOk (n.nb (t0 + bs.length)) b b') : TubeSt n t0 b0 (bs ++ [b]) b'
def CodeAt (n : TbIn) (t : Int) (b : B4) (c : Str) : Prop :=
  (c = "level" ∧ ¬ LvOk n.fx n.legs n.r b) ∨ (c = "shut" ∧ LvOk n.fx n.legs n.r b ∧ ¬ HrOk n.fx n.legs n.r n.hs t b) ∨ (c = "slow" ∧ LvOk n.fx n.legs n.r b ∧ HrOk n.fx n.legs n.r n.hs t b ∧ ¬ HwOk (n.nb t) b)
def SpOk (n : TbIn) : Prop := n.kd.2.1 ≤ n.sp ∧ n.sp ≤ n.kd.2.2.1
def TubeErr (n : TbIn) (t0 : Int) (b0 : B4) (c : Str) (t : Int) : Prop :=
  (c = "speed" ∧ t = t0 ∧ ¬ SpOk n) ∨ SpOk n ∧ ∃ bs b, TubeSt n t0 b0 bs b ∧ b.1 < tot n.fx n.r ∧ t = t0 + bs.length ∧ ((bs.length = 240 ∧ c = "long") ∨ (bs.length < 240 ∧ CodeAt n t b c))
def TubeOut (n : TbIn) (t0 : Int) (b0 : B4) (bs : List B4) : Prop := SpOk n ∧ ∃ b, TubeSt n t0 b0 bs b ∧ tot n.fx n.r ≤ b.1
theorem TubeSt.len {n : TbIn} {t0 : Int} {b0 : B4} {bs : List B4} {b : B4} (h : TubeSt n t0 b0 bs b) : bs.length ≤ 240 := by
  cases h with
  | nil => exact Nat.zero_le _
  | snoc h lt len ok nx =>
    rw [List.length_append]
    exact len
theorem TubeSt.box {n : TbIn} {t0 : Int} {b0 : B4} (h0 : BoxOk b0) (hs : ∀ t k, (bnd n.fx n.r n.sp n.sl (windAt n.ws t) (la n.fx n.r k)).1 ≤ (bnd n.fx n.r n.sp n.sl (windAt n.ws t) (la n.fx n.r k)).2) {bs : List B4} {b : B4} (h : TubeSt n t0 b0 bs b) : BoxOk b ∧ ∀ c ∈ bs, BoxOk c := by
  induction h with
  | nil => exact ⟨h0, fun c hc => absurd hc List.not_mem_nil⟩
  | snoc h lt len ok nx ih =>
    refine ⟨nx.box (hs _), fun c hc => ?_⟩
    rcases List.mem_append.mp hc with z | z
    · exact ih.2 c z
    · rw [List.mem_singleton.mp z]
      exact ih.1
/-- the i-th box; the one behind it (the last one: the box of now) -/
theorem TubeSt.at_ {n : TbIn} {t0 : Int} {b0 : B4} {bs : List B4} {b : B4} (h : TubeSt n t0 b0 bs b) : ∀ (i : Nat) (c : B4), bs[i]? = some c → c.1 < tot n.fx n.r ∧ St3 n (t0 + i) c ∧ ∃ c', ((bs ++ [b])[i + 1]? = some c') ∧ NbOk (n.nb (t0 + i)) c c' := by
  induction h with
  | nil => intro i c h; simp at h
  | @snoc bs b b' h lt len ok nx ih =>
    intro i c hc
    by_cases hi : i < bs.length
    · rw [List.getElem?_append_left hi] at hc
      obtain ⟨a1, a2, c', a3, a4⟩ := ih i c hc
      refine ⟨a1, a2, c', ?_, a4⟩
      rw [List.getElem?_append_left (by rw [List.length_append]; exact Nat.succ_lt_succ hi)]
      exact a3
    · rw [List.getElem?_append_right (by omega)] at hc
      have hi2 : i = bs.length := by
        have := (List.getElem?_eq_some_iff.mp hc).1
        simp only [List.length_cons, List.length_nil] at this
        omega
      subst hi2
      rw [Nat.sub_self] at hc
      have e : b = c := by simpa using hc
      subst e
      refine ⟨lt, ok, b', ?_, nx⟩
      rw [List.getElem?_append_right (by rw [List.length_append]; exact Nat.le_refl _), List.length_append]
      simp
theorem TubeSt.nil_eq {n : TbIn} {t0 : Int} {b0 : B4} {bs : List B4} {b : B4} (h : TubeSt n t0 b0 bs b) (e : bs = []) : b = b0 := by
  cases h with
  | nil => rfl
  | snoc h lt len ok nx => simp at e
theorem TubeSt.first {n : TbIn} {t0 : Int} {b0 : B4} {bs : List B4} {b : B4} (h : TubeSt n t0 b0 bs b) : (bs ++ [b])[0]? = some b0 := by
  induction h with
  | nil => rfl
  | @snoc bs b b' h lt len ok nx ih =>
    cases bs with
    | nil =>
      rw [h.nil_eq rfl]
      rfl
    | cons a r => exact ih
/-- the earliest, the latest tick -/
def winE (tt t : Int) : List B4 → Int
  | [] => t
  | b :: bs => if tt ≤ b.2.1 then t else winE tt (t + 1) bs
def win (tt t : Int) (bs : List B4) : Int × Int := (winE tt t bs, t + bs.length)
end MP
set_option Elab.async false
set_option linter.all false
set_option maxRecDepth 100000
set_option maxHeartbeats 4100000
/-! TuA: what is below a box; boxes that may not be flown (shared by the laws of tubes). -/
namespace Law
open PySem L2 Evl Sk MP M10
local macro_rules | `(tactic| walk_at "sc") => `(tactic| first | omega | assumption | (with_reducible exact mulOk) | (with_reducible exact smOk) | (with_reducible exact ⟨by decide, smOk⟩) | decide | (simp only [List.length_cons, List.length_nil]; decide) | exact divOk (by omega))
end Law
set_option Elab.async false
set_option linter.all false
set_option maxRecDepth 100000
set_option maxHeartbeats 4100000
/-! TuB: tubes (shared by the laws of tubes). -/
namespace Law
open PySem L2 Evl Sk MP M10
local macro_rules | `(tactic| walk_at "sc") => `(tactic| first | omega | assumption | (with_reducible exact mulOk) | (with_reducible exact smOk) | (with_reducible exact ⟨by decide, smOk⟩) | decide | (simp only [List.length_cons, List.length_nil]; decide) | exact divOk (by omega))
section
variable {P : Program} {w : World} {K : PySem.W.Frag} {mg : Str → Option Value} {base : Heap}
theorem slow_le {ch : ChV} {r : List Str} {sd sl : Int} {ws : List W4} (hr : RtV ch r) (hst : Strict (fxOf ch) r) (hsl : 0 ≤ sl) (hws : WdOk ws) (t : Int) (k : Int) : (bnd (fxOf ch) r sd sl (windAt ws t) (la (fxOf ch) r k)).1 ≤ (bnd (fxOf ch) r sd sl (windAt ws t) (la (fxOf ch) r k)).2 :=
  stpB_le (by
    have := bg_lt hst (la_lt hr.two (fx := fxOf ch) k)
    show 0 < bg (fxOf ch) r (la (fxOf ch) r k + 1) - bg (fxOf ch) r (la (fxOf ch) r k)
    omega) hsl (hws.ok t).e.1
end
end Law
set_option Elab.async false
set_option linter.all false
set_option maxRecDepth 100000
set_option maxHeartbeats 4100000
/-! TuW: windows (shared by the laws of tubes). -/
namespace Law
open PySem L2 Evl Sk MP M10
local macro_rules | `(tactic| walk_at "sc") => `(tactic| first | omega | assumption | (with_reducible exact mulOk) | (with_reducible exact smOk) | (with_reducible exact ⟨by decide, smOk⟩) | decide | (simp only [List.length_cons, List.length_nil]; decide) | exact divOk (by omega))
section
variable {P : Program} {w : World} {K : PySem.W.Frag} {mg : Str → Option Value} {base : Heap}
abbrev sp_window (C : Addr) (K : Fg) : Sp := spF K [] (fCons (rPath C) (fCons rInt (fOne (rLst rB4)))) (fun x => RtV x.1.1 x.1.2) rPr fun x => win (tot (fxOf x.1.1) x.1.2) x.2.1 x.2.2
abbrev N_window : List Str := ["path", "tick", "boxes", "latest", "index", "box"]
theorem sc_window : FnScope N_window ["path", "tick", "boxes"] (defScope s_window) := ⟨rfl, rfl, rfl, by decide +kernel, rfl, by decide +kernel, by decide +kernel⟩
theorem ok_window (N : Nm K mg) (T : Bt mg) : FnOk P w K mg base CX0 2 N.window.f N.window.fd ["path", "tick", "boxes"] (sp_window N.cPath K) := by
  refine fn_m N.window.F sc_window [] fun cdv A outer s G H E x Q fam hp hk => ?_
  obtain ⟨⟨ch, r⟩, t, bs⟩ := x
  have hr : RtV ch r := hp
  have hk' : ∀ {Γ : Gm} {y : Int × Int}, y = (winE (tot (fxOf ch) r) t bs, t + (bs.length : Int)) → RT K ⟨[], _, G, H, []⟩ Γ [] rPr y _ := fun {Γ y} e => hk ⟨rfl, e⟩
  clear hk
  show DS _ K ⟨[], _, G, H, []⟩ [some ⟨rPath N.cPath, (ch, r)⟩, some ⟨rInt, t⟩, some ⟨(rLst rB4), bs⟩, none, none, none] [] (defBody s_window) _
  refine s_set 3 (d_bin (d_var 1 (d_callB T.len bt_len (da_one (d_var 2 (c_lenL (o_add ?_)))))))
  refine s_for (js := [4, 5]) (w_enum (ra := rB4) T.enumerate (d_var 2 ?_))
  refine ⟨Nat, fun i d => d = i ∧ winE (tot (fxOf ch) r) t bs = winE (tot (fxOf ch) r) (t + (i : Int)) (bs.drop i), fun _ => [some ⟨rPath N.cPath, (ch, r)⟩, some ⟨rInt, t⟩, some ⟨(rLst rB4), bs⟩, some ⟨rInt, t + (bs.length : Int)⟩, none, none], fun _ => [], ⟨0, ⟨rfl, by simp⟩, ⟨rfl, rfl, rfl, rfl, trivial⟩, rfl⟩, fun g i x d hx hd => (g_tup (gs_cons (g_name 4 (gs_one (g_name 5 ?_))))), fun d hd => ?_⟩
  · obtain ⟨ed, hd⟩ := hd
    subst ed
    obtain ⟨b, hb, ex⟩ := enm_get.mp hx
    subst ex
    have hdr : bs.drop d = b :: bs.drop (d + 1) := by
      have hlt := (List.getElem?_eq_some_iff.mp hb).1
      rw [List.drop_eq_getElem_cons hlt, (List.getElem?_eq_some_iff.mp hb).2]
    rw [hdr] at hd
    dsimp only
    refine s_ifP (x := decide (b.2.1 ≥ tot (fxOf ch) r)) (dt_cmp (d_ix (d_var (ra := rB4) (x := b) 5 (d_int (i_tup 1 (d_meth0 N.kPath N.mPath_total (ok_Path_total N T) (d_var 0 ⟨_, inferInstance, (sw_f hr (o_ge ⟨rfl, rfl⟩))⟩))))))) (fun hc => ?_) (fun hc => ?_)
    · refine s_ret (d_tup (da_cons (d_bin (d_var 1 (d_var (ra := rInt) (x := (d : Int)) 4 (o_add (da_one (d_var 3 (rt_in (hk' ?_))))))))))
      have hc := of_decide_eq_true hc
      rw [hd]
      unfold winE
      rw [if_pos hc]
    · refine s_out (s_next (d + 1) ⟨rfl, ?_⟩ ⟨rfl, rfl, rfl, rfl, trivial⟩ rfl)
      have hc := of_decide_eq_false hc
      rw [hd]
      unfold winE
      rw [if_neg (by omega)]
      rw [show t + (d : Int) + 1 = t + ((d + 1 : Nat) : Int) by omega]
      cases bs.drop (d + 1) <;> rfl
  · obtain ⟨ed, hd⟩ := hd
    rw [enm_len, List.drop_length] at hd
    refine s_ret (d_tup (da_cons (d_var 3 (da_one (d_var 3 (hk' ?_))))))
    rw [hd]
    rfl
end
end Law
set_option Elab.async false
set_option linter.all false
set_option maxRecDepth 100000
set_option maxHeartbeats 4100000
/-! TwH: hours; what is flown by the law (k14). -/
namespace Law
open PySem L2 Evl Sk MP M10
local macro_rules | `(tactic| walk_at "sc") => `(tactic| first | omega | assumption | (with_reducible exact mulOk) | (with_reducible exact smOk) | (with_reducible exact ⟨by decide, smOk⟩) | decide | (simp only [List.length_cons, List.length_nil]; decide) | exact divOk (by omega))
section
variable {P : Program} {w : World} {K : PySem.W.Frag} {mg : Str → Option Value} {base : Heap}
/-- hours of legs of the chart -/
def HrsOk (hs : List Hr) : Prop := ∀ h ∈ hs, PyData.strOk h.1 = true ∧ PyData.strOk h.2.1 = true
theorem HrsOk.snoc {hs : List Hr} {h : Hr} (z : HrsOk hs) (h1 : PyData.strOk h.1 = true) (h2 : PyData.strOk h.2.1 = true) : HrsOk (hs ++ [h]) := fun t ht => by
  rcases List.mem_append.mp ht with y | y
  · exact z t y
  · rw [List.mem_singleton.mp y]
    exact ⟨h1, h2⟩
end
end Law
set_option Elab.async false
set_option linter.all false
set_option maxRecDepth 100000
set_option maxHeartbeats 4100000
/-! TnA: the next box by the law, leg by leg (k13). -/
namespace Law
open PySem L2 Evl Sk MP M10
local macro_rules | `(tactic| walk_at "sc") => `(tactic| first | omega | assumption | (with_reducible exact mulOk) | (with_reducible exact smOk) | (with_reducible exact ⟨by decide, smOk⟩) | decide | (simp only [List.length_cons, List.length_nil]; decide) | exact divOk (by omega))
theorem nlv_min {k : K5} {g dn up m : Int} (hk : k.2.2.2.1 ≤ k.2.2.2.2) (h1 : m ∈ [tow dn g k.2.2.2.1, tow dn g k.2.2.2.2]) (h2 : ∀ y ∈ [tow dn g k.2.2.2.1, tow dn g k.2.2.2.2], m ≤ y) : m = (nlv k g dn up).1 := by
  have a : (nlv k g dn up).1 ∈ [tow dn g k.2.2.2.1, tow dn g k.2.2.2.2] := by
    unfold nlv
    dsimp only
    by_cases z : dn < g
    · rw [if_pos z]
      exact List.mem_cons_self ..
    · rw [if_neg z]
      exact List.mem_cons_of_mem _ (List.mem_singleton_self _)
  refine Int.le_antisymm (h2 _ a) ?_
  rcases List.mem_cons.mp h1 with z | z
  · rw [z]
    exact tow_dn hk (Int.le_refl _) (.inl rfl)
  · rw [List.mem_singleton.mp z]
    exact tow_dn hk (Int.le_refl _) (.inr rfl)
theorem nlv_max {k : K5} {g dn up m : Int} (hk : k.2.2.2.1 ≤ k.2.2.2.2) (h1 : m ∈ [tow up g k.2.2.2.1, tow up g k.2.2.2.2]) (h2 : ∀ y ∈ [tow up g k.2.2.2.1, tow up g k.2.2.2.2], y ≤ m) : m = (nlv k g dn up).2 := by
  have a : (nlv k g dn up).2 ∈ [tow up g k.2.2.2.1, tow up g k.2.2.2.2] := by
    unfold nlv
    dsimp only
    by_cases z : up < g
    · rw [if_pos z]
      exact List.mem_cons_of_mem _ (List.mem_singleton_self _)
    · rw [if_neg z]
      exact List.mem_cons_self ..
  refine Int.le_antisymm ?_ (h2 _ a)
  rcases List.mem_cons.mp h1 with z | z
  · rw [z]
    exact tow_up hk (Int.le_refl _) (.inl rfl)
  · rw [List.mem_singleton.mp z]
    exact tow_up hk (Int.le_refl _) (.inr rfl)
section
variable {P : Program} {w : World} {K : PySem.W.Frag} {mg : Str → Option Value} {base : Heap}
abbrev LnA := ChV × List Str × List Int × CrV × K5 × RuV × List W4 × Int × B4
abbrev lnIn (x : LnA) : NbIn := ⟨fxOf x.1, lgOf x.1, x.2.1, x.2.2.2.1.2.1, x.2.2.2.1.2.2, x.2.2.2.2.1, slipOf x.2.2.2.2.2.1, windAt x.2.2.2.2.2.2.1 x.2.2.2.2.2.2.2.1⟩
structure LnOk (x : LnA) : Prop where
  ch : ChOk x.1
  rt : RtV x.1 x.2.1
  bs : x.2.2.1 = begins (fxOf x.1) x.2.1
  wd : WdOk x.2.2.2.2.2.2.1
  kd : x.2.2.2.2.1.2.2.2.1 ≤ x.2.2.2.2.1.2.2.2.2
  t0 : 0 ≤ x.2.2.2.2.2.2.2.1
  bx : BoxOk x.2.2.2.2.2.2.2.2
abbrev sp_law_next (K : Fg) : Sp := sp0 K [] (fCons rChart (fCons (rTpv rStr) (fCons (rLst rInt) (fCons rCrs (fCons rK5 (fCons rRules (fCons (rLst rWnd) (fCons rInt (fOne rB4))))))))) LnOk rB4 fun x y => NbOk (lnIn x) x.2.2.2.2.2.2.2.2 y
abbrev N_law_next : List Str := ["_law_chart_here", "_law_route", "_law_begins_here", "_law_course_here", "_law_kind_here", "_law_rules_here", "_law_winds_here", "_law_tick", "_law_box", "_law_wind", "_law_ends", "_law_k", "_law_bounds_here", "_law_low", "_law_high", "_law_goal", "_law_down", "_law_up", "_law_end"]
theorem sc_law_next : FnScope N_law_next ["_law_chart_here", "_law_route", "_law_begins_here", "_law_course_here", "_law_kind_here", "_law_rules_here", "_law_winds_here", "_law_tick", "_law_box"] (defScope s_law_next) := ⟨rfl, rfl, rfl, by decide +kernel, rfl, by decide +kernel, by decide +kernel⟩
theorem ok_law_next (N : Nm K mg) (T : Bt mg) : FnOk P w K mg base CX0 3 N.law_next.f N.law_next.fd ["_law_chart_here", "_law_route", "_law_begins_here", "_law_course_here", "_law_kind_here", "_law_rules_here", "_law_winds_here", "_law_tick", "_law_box"] (sp_law_next K) := by
  refine fn_m N.law_next.F sc_law_next [] fun cdv A outer s G H E x Q fam hp hk => ?_
  obtain ⟨ch, r, bs, ⟨cr, sd, lv⟩, kd, ru, ws, t, b⟩ := x
  obtain ⟨hc, hr, hbs, hw, hkd, t0, hb⟩ := hp
  dsimp only at hc hr hbs hw hkd t0 hb
  subst hbs
  have hk' : ∀ {Γ : Gm} {O : List Own} {y : B4}, NbOk ⟨fxOf ch, lgOf ch, r, sd, lv, kd, slipOf ru, windAt ws t⟩ b y → RT K ⟨[], _, G, H, []⟩ Γ O rB4 y _ := fun {Γ O y} e => rt_drop (hk ⟨rfl, e⟩)
  clear hk
  have z1 : 100000 ≤ sizeLine := by decide
  have hs := hr.strict hc
  have h2 := hr.two
  have hlen : r.length ≤ 1000 := hr.len
  have hb2 : 2 ≤ (begins (fxOf ch) r).length := by rw [begins_len]; exact h2
  have hb3 : (begins (fxOf ch) r).length ≤ 1000 := by rw [begins_len]; exact hlen
  have hla : ∀ p, laL ((List.range r.length).map (bg (fxOf ch) r)) p = la (fxOf ch) r p := fun p => laL_eq (fx := fxOf ch) h2 p
  have hla2 : ∀ p, laL (begins (fxOf ch) r) p = la (fxOf ch) r p := hla
  have hwn := hw.ok t
  obtain ⟨w0, hw0, hw1⟩ := hw.first
  have A1 := (la_ok (fxOf ch) h2 b.1).lt
  have A2 := (la_ok (fxOf ch) h2 b.2.1).lt
  have A3 := la_mono (fxOf ch) h2 hb.p
  show DS _ K ⟨[], _, G, H, []⟩ [some ⟨rChart, ch⟩, some ⟨(rTpv rStr), r⟩, some ⟨(rLst rInt), begins (fxOf ch) r⟩, some ⟨rCrs, (cr, sd, lv)⟩, some ⟨rK5, kd⟩, some ⟨rRules, ru⟩, some ⟨(rLst rWnd), ws⟩, some ⟨rInt, t⟩, some ⟨rB4, b⟩, none, none, none, none, none, none, none, none, none, none] [] (defBody s_law_next) _
  refine s_set 9 (d_call N.wind_at (ok_wind_at N T) (da_cons (d_var 6 (da_one (d_var 7 (sw_f ⟨⟨w0, hw0, by dsimp only; omega⟩, hw.len⟩ ?_))))))
  refine s_set 10 (d_lstO (ra := rB4) (da_all0 ⟨(by walk_at "sc"), fun q10 hq10 => ?_⟩))
  refine s_for (js := [11]) (w_rng2 T.range (d_call N.leg_at (ok_leg_at N T) (da_cons (d_var 2 (da_one (d_ix (d_var (ra := rB4) (x := b) 8 (d_int (i_tup 0 (sw_f ⟨hb2, hb3⟩ (d_bin (d_call N.leg_at (ok_leg_at N T) (da_cons (d_var 2 (da_one (d_ix (d_var (ra := rB4) (x := b) 8 (d_int (i_tup 1 (sw_f ⟨hb2, hb3⟩ (d_int (o_add ⟨?_, ?_⟩))))))))))))))))))))))
  · dsimp only
    rw [hla, hla]
    omega
  dsimp only
  rw [hla, hla]
  generalize ef : la (fxOf ch) r b.1 = f at *
  generalize el : la (fxOf ch) r b.2.1 = l at *
  have hcnt : ((l : Int) + 1 - (f : Int)).toNat = l + 1 - f := by omega
  rw [hcnt]
  refine ⟨Nat, fun i d => d = i ∧ i ≤ l + 1 - f, fun _ => [some ⟨rChart, ch⟩, some ⟨(rTpv rStr), r⟩, some ⟨(rLst rInt), begins (fxOf ch) r⟩, some ⟨rCrs, (cr, sd, lv)⟩, some ⟨rK5, kd⟩, some ⟨rRules, ru⟩, some ⟨(rLst rWnd), ws⟩, some ⟨rInt, t⟩, some ⟨rB4, b⟩, some ⟨rWnd, windAt ws t⟩, some ⟨rAdr, q10⟩, none, none, none, none, none, none, none, none],
    fun d => [⟨q10, oLst rB4, (List.range d).map fun j => nbRow ⟨fxOf ch, lgOf ch, r, sd, lv, kd, slipOf ru, windAt ws t⟩ b (f + j)⟩], ⟨0, ⟨rfl, Nat.zero_le _⟩, ⟨rfl, rfl, rfl, rfl, rfl, rfl, rfl, rfl, rfl, rfl, rfl, trivial⟩, rfl⟩, fun g i x d hx hd => (g_name 11 ?_), fun d hd => ?_⟩
  · obtain ⟨rfl, _⟩ := hd
    obtain ⟨hlt, ex⟩ := rgI_item hx
    have ex : x = ((f + d : Nat) : Int) := by omega
    subst ex
    have hi1 : f + d + 1 < r.length := by omega
    have g0 := atI_nat' (bg_get (fx := fxOf ch) (show f + d < r.length by omega))
    have g1 : atI (begins (fxOf ch) r) (((f + d : Nat) : Int) + 1) = some (bg (fxOf ch) r (f + d + 1)) := atI_nat' (bg_get (fx := fxOf ch) hi1)
    refine s_set 12 (d_call N.bounds (ok_bounds N T) (da_cons (d_var 0 (da_cons (d_var 1 (da_cons (d_var 2 (da_cons (d_var (ra := rInt) (x := ((f + d : Nat) : Int)) 11 (da_cons (d_ix (d_var (ra := rCrs) (x := (cr, sd, lv)) 3 (d_int (i_tup 1 (da_cons (d_recP 5 4 rfl ruN_nd (da_one (d_var 9 (sw_f ⟨hr, hs, rfl, Int.natCast_nonneg _, by dsimp only; rw [Int.toNat_natCast]; exact hi1, hwn⟩ ?_)))))))))))))))))))
    dsimp only
    rw [Int.toNat_natCast]
    refine s_set 13 (d_abs (fun y => y = stA (fxOf ch) r b (f + d)) (fun y hy => ?_) (d_iteP (dt_cmp (d_var (ra := rInt) (x := ((f + d : Nat) : Int)) 11 (d_call N.leg_at (ok_leg_at N T) (da_cons (d_var 2 (da_one (d_ix (d_var (ra := rB4) (x := b) 8 (d_int (i_tup 0 (sw_f ⟨hb2, hb3⟩ (o_eqI ⟨rfl, rfl⟩)))))))))))) (fun hb => (d_ix (d_var (ra := rB4) (x := b) 8 (d_int (i_tup 0 ⟨?_, rfl⟩))))) (fun hb => (d_ix (d_var (ra := rLst rInt) (x := begins (fxOf ch) r) 2 (d_var (ra := rInt) (x := ((f + d : Nat) : Int)) 11 (i_lst g0 ⟨?_, rfl⟩)))))))
    rotate_left
    · have := of_decide_eq_true hb
      dsimp only at this
      rw [hla] at this
      unfold stA
      rw [if_pos (by rw [ef]; omega)]
    · have := of_decide_eq_false hb
      dsimp only at this
      rw [hla] at this
      unfold stA
      rw [if_neg (by rw [ef]; omega)]
    subst hy
    refine s_set 14 (d_abs (fun y => y = enA (fxOf ch) r b (f + d)) (fun y hy => ?_) (d_iteP (dt_cmp (d_var (ra := rInt) (x := ((f + d : Nat) : Int)) 11 (d_call N.leg_at (ok_leg_at N T) (da_cons (d_var 2 (da_one (d_ix (d_var (ra := rB4) (x := b) 8 (d_int (i_tup 1 (sw_f ⟨hb2, hb3⟩ (o_eqI ⟨rfl, rfl⟩)))))))))))) (fun hb => (d_ix (d_var (ra := rB4) (x := b) 8 (d_int (i_tup 1 ⟨?_, rfl⟩))))) (fun hb => (d_bin (d_ix (d_var (ra := rLst rInt) (x := begins (fxOf ch) r) 2 (d_bin (d_var (ra := rInt) (x := ((f + d : Nat) : Int)) 11 (d_int (o_add (i_lst g1 (d_int (o_sub ⟨?_, rfl⟩)))))))))))))
    rotate_left
    · have := of_decide_eq_true hb
      dsimp only at this
      rw [hla] at this
      unfold enA
      rw [if_pos (by rw [el]; omega)]
    · have := of_decide_eq_false hb
      dsimp only at this
      rw [hla] at this
      unfold enA
      rw [if_neg (by rw [el]; omega)]
    subst hy
    refine s_set 15 (d_call N.target (ok_target N T) (da_cons (d_var 0 (da_cons (d_var 1 (da_cons (d_var (ra := rInt) (x := ((f + d : Nat) : Int)) 11 (da_one (d_ix (d_var (ra := rCrs) (x := (cr, sd, lv)) 3 (d_int (i_tup 2 (sw_f ⟨hc, hr, Int.natCast_nonneg _, by dsimp only; rw [Int.toNat_natCast]; exact hi1⟩ ?_)))))))))))))
    dsimp only
    rw [Int.toNat_natCast]
    generalize eg : tgt (lgOf ch) r lv (f + d) = go
    refine s_set 16 (d_lst (ra := rInt) (da_all (d_call N.towards (ok_towards N T) (da_cons (d_ix (d_var (ra := rB4) (x := b) 8 (d_int (i_tup 2 (da_cons (d_var (ra := rInt) (x := go) 15 (da_one (d_ix (d_var (ra := rK5) (x := kd) 4 (d_int (i_tup 3 (sw_f trivial (da_all (d_call N.towards (ok_towards N T) (da_cons (d_ix (d_var (ra := rB4) (x := b) 8 (d_int (i_tup 2 (da_cons (d_var (ra := rInt) (x := go) 15 (da_one (d_ix (d_var (ra := rK5) (x := kd) 4 (d_int (i_tup 4 (sw_f trivial (da_all0 ⟨(by walk_at "sc"), ?_⟩))))))))))))))))))))))))))))))))
    refine s_set 17 (d_lst (ra := rInt) (da_all (d_call N.towards (ok_towards N T) (da_cons (d_ix (d_var (ra := rB4) (x := b) 8 (d_int (i_tup 3 (da_cons (d_var (ra := rInt) (x := go) 15 (da_one (d_ix (d_var (ra := rK5) (x := kd) 4 (d_int (i_tup 3 (sw_f trivial (da_all (d_call N.towards (ok_towards N T) (da_cons (d_ix (d_var (ra := rB4) (x := b) 8 (d_int (i_tup 3 (da_cons (d_var (ra := rInt) (x := go) 15 (da_one (d_ix (d_var (ra := rK5) (x := kd) 4 (d_int (i_tup 4 (sw_f trivial (da_all0 ⟨(by walk_at "sc"), ?_⟩))))))))))))))))))))))))))))))))
    refine s_expr (d_app (ra := rB4) (d_var 10 ⟨_, _, inferInstance, (d_tup (da_cons (d_bin (d_var 13 (d_ix (d_var (ra := rPr) 12 (d_int (i_tup 0 (o_add (da_cons (d_bin (d_var 14 (d_ix (d_var (ra := rPr) 12 (d_int (i_tup 1 (o_add (da_cons (d_callB T.min bt_min (da_one (d_var (ra := rLst rInt) 16 (c_minG (by exact Nat.zero_lt_succ _) (fun m hm1 hm2 => (da_one (d_callB T.max bt_max (da_one (d_var (ra := rLst rInt) 17 (c_maxG (by exact Nat.zero_lt_succ _) (fun m2 hn1 hn2 => ⟨_, _, inferInstance, ?_, ?_⟩)))))))))))))))))))))))))))))⟩))
    · rw [List.length_map, List.length_range]
      omega
    · refine s_next (d + 1) ⟨rfl, by omega⟩ ⟨rfl, rfl, rfl, rfl, rfl, rfl, rfl, rfl, rfl, rfl, rfl, trivial⟩ ?_
      rw [List.range_succ (n := d), List.map_append]
      rw [nlv_min (up := b.2.2.2) hkd hm1 hm2, nlv_max (dn := b.2.2.1) hkd hn1 hn2, ← eg]
      rfl
  · obtain ⟨rfl, _⟩ := hd
    rw [rgI_len]
    have erow : (List.range (l + 1 - f)).map (fun j => nbRow ⟨fxOf ch, lgOf ch, r, sd, lv, kd, slipOf ru, windAt ws t⟩ b (f + j)) = nbRows ⟨fxOf ch, lgOf ch, r, sd, lv, kd, slipOf ru, windAt ws t⟩ b := by
      unfold nbRows
      dsimp only
      rw [ef, el]
    dsimp only
    rw [erow]
    have hrl : (nbRows ⟨fxOf ch, lgOf ch, r, sd, lv, kd, slipOf ru, windAt ws t⟩ b).length = l + 1 - f := by
      rw [← erow, List.length_map, List.length_range]
    have hpos : ∀ {γ : Type} (g : B4 → γ), 0 < ((nbRows ⟨fxOf ch, lgOf ch, r, sd, lv, kd, slipOf ru, windAt ws t⟩ b).map g).length := fun g => by
      rw [List.length_map, hrl]
      omega
    have hsz : (nbRows ⟨fxOf ch, lgOf ch, r, sd, lv, kd, slipOf ru, windAt ws t⟩ b).length ≤ sizeLine := by omega
    exact s_ret (d_tup (da_cons ((d_callB T.min bt_min (da_one (d_lcPw (js := [18]) (ra := rB4) (rb := rInt) (f := fun x : B4 => x.1) [("_law_end", 18)] [18] (fun _ => blkOk_by (N := N_law_next) (sc := defScope s_law_next) (by decide +kernel)) (w_own (d_var 10 ⟨_, _, inferInstance, ⟨rfl, hsz, fun gg D ys x hx => (g_name 18 (d_ix (d_var (ra := rB4) (x := x) 18 (d_int (i_tup 0 ⟨rfl, rfl⟩))))), (c_minG (hpos _) (fun m0 m0a m0b => da_cons ((d_callB T.max bt_max (da_one (d_lcPw (js := [18]) (ra := rB4) (rb := rInt) (f := fun x : B4 => x.2.1) [("_law_end", 18)] [18] (fun _ => blkOk_by (N := N_law_next) (sc := defScope s_law_next) (by decide +kernel)) (w_own (d_var 10 ⟨_, _, inferInstance, ⟨rfl, hsz, fun gg D ys x hx => (g_name 18 (d_ix (d_var (ra := rB4) (x := x) 18 (d_int (i_tup 1 ⟨rfl, rfl⟩))))), (c_maxG (hpos _) (fun m1 m1a m1b => da_cons ((d_callB T.min bt_min (da_one (d_lcPw (js := [18]) (ra := rB4) (rb := rInt) (f := fun x : B4 => x.2.2.1) [("_law_end", 18)] [18] (fun _ => blkOk_by (N := N_law_next) (sc := defScope s_law_next) (by decide +kernel)) (w_own (d_var 10 ⟨_, _, inferInstance, ⟨rfl, hsz, fun gg D ys x hx => (g_name 18 (d_ix (d_var (ra := rB4) (x := x) 18 (d_int (i_tup 2 ⟨rfl, rfl⟩))))), (c_minG (hpos _) (fun m2 m2a m2b => da_one ((d_callB T.max bt_max (da_one (d_lcPw (js := [18]) (ra := rB4) (rb := rInt) (f := fun x : B4 => x.2.2.2) [("_law_end", 18)] [18] (fun _ => blkOk_by (N := N_law_next) (sc := defScope s_law_next) (by decide +kernel)) (w_own (d_var 10 ⟨_, _, inferInstance, ⟨rfl, hsz, fun gg D ys x hx => (g_name 18 (d_ix (d_var (ra := rB4) (x := x) 18 (d_int (i_tup 3 ⟨rfl, rfl⟩))))), (c_maxG (hpos _) (fun m3 m3a m3b => hk' (nb_of h2 hs hb hkd m0a m0b m1a m1b m2a m2b m3a m3b)))⟩⟩))))))))⟩⟩))))))))⟩⟩))))))))⟩⟩))))))))
end
end Law
set_option Elab.async false
set_option linter.all false
set_option maxRecDepth 100000
set_option maxHeartbeats 4100000
/-! TcA: codes and tubes by the law (k13). -/
namespace Law
open PySem L2 Evl Sk MP M10
local macro_rules | `(tactic| walk_at "sc") => `(tactic| first | omega | assumption | (with_reducible exact mulOk) | (with_reducible exact smOk) | (with_reducible exact ⟨by decide, smOk⟩) | decide | (simp only [List.length_cons, List.length_nil]; decide) | exact divOk (by omega))
theorem below_mem {fx : Fx} {r : List Str} {b : B4} {x : Int} : x ∈ below fx r b ↔ ∃ k : Nat, x = (k : Int) ∧ OnB fx r b k := by
  constructor
  · intro h
    obtain ⟨i, hi⟩ := List.getElem?_of_mem h
    obtain ⟨k, e, ho, _⟩ := below_get hi
    exact ⟨k, e, ho⟩
  · rintro ⟨k, e, ho⟩
    subst e
    obtain ⟨i, hi, ek⟩ := below_of ho
    obtain ⟨y, hy⟩ : ∃ y, (below fx r b)[i]? = some y := ⟨_, List.getElem?_eq_getElem hi⟩
    obtain ⟨k2, e2, _, e3⟩ := below_get hy
    have : k2 = k := by omega
    subst this
    rw [← e2]
    exact List.mem_of_getElem? hy
/-- the legs below a box -/
def unders (fx : Fx) (legs : List Leg) (r : List Str) (b : B4) : List Leg := (below fx r b).map fun k => lgAt legs r k.toNat
theorem unders_mem {fx : Fx} {legs : List Leg} {r : List Str} {b : B4} {l : Leg} : l ∈ unders fx legs r b ↔ ∃ k : Nat, OnB fx r b k ∧ l = lgAt legs r k := by
  unfold unders
  rw [List.mem_map]
  constructor
  · rintro ⟨x, hx, e⟩
    obtain ⟨k, e2, ho⟩ := below_mem.mp hx
    subst e2
    exact ⟨k, ho, by rw [← e, Int.toNat_natCast]⟩
  · rintro ⟨k, ho, e⟩
    exact ⟨(k : Int), below_mem.mpr ⟨k, rfl, ho⟩, by rw [Int.toNat_natCast]; exact e.symm⟩
abbrev lvT (b : B4) (l : Leg) : Bool := decide (b.2.2.1 < l.2.2.2.1) || decide (b.2.2.2 > l.2.2.2.2)
theorem lv_any {fx : Fx} {legs : List Leg} {r : List Str} {b : B4} : ((unders fx legs r b).map (lvT b)).any (fun x => x) = false ↔ LvOk fx legs r b := by
  rw [List.any_map, List.any_eq_false]
  constructor
  · intro h k ho
    have := h _ (unders_mem.mpr ⟨k, ho, rfl⟩)
    have z : ¬ (lvT b (lgAt legs r k) = true) := this
    simp only [Bool.or_eq_true, decide_eq_true_eq] at z
    omega
  · intro h l hl
    obtain ⟨k, ho, e⟩ := unders_mem.mp hl
    subst e
    have := h k ho
    show ¬ (lvT b (lgAt legs r k) = true)
    simp only [Bool.or_eq_true, decide_eq_true_eq]
    omega
abbrev hrT (t : Int) (ls : List Leg) (h : Hr) : Bool := (decide (h.2.2.1 ≤ t) && decide (t ≤ h.2.2.2)) && (ls.map fun l => decide ((l.1, l.2.1) = (h.1, h.2.1))).any fun x => x
theorem hr_ok {fx : Fx} {legs : List Leg} {r : List Str} {b : B4} {hs : List Hr} {t : Int} (h : ∀ x ∈ hs, hrT t (unders fx legs r b) x = false) : HrOk fx legs r hs t b := by
  intro k ho
  unfold shutK
  rw [List.any_eq_false]
  intro x hx hm
  have h1 := h x hx
  unfold hrM at hm
  simp only [Bool.and_eq_true, decide_eq_true_eq] at hm
  obtain ⟨e1, e2, e3, e4⟩ := hm
  unfold hrT at h1
  rw [decide_eq_true e3, decide_eq_true e4, Bool.true_and, Bool.true_and, List.any_map, List.any_eq_false] at h1
  exact h1 _ (unders_mem.mpr ⟨k, ho, rfl⟩) (decide_eq_true (by rw [e1, e2]))
theorem hr_no {fx : Fx} {legs : List Leg} {r : List Str} {b : B4} {hs : List Hr} {t : Int} {x : Hr} (hx : x ∈ hs) (h : hrT t (unders fx legs r b) x = true) : ¬ HrOk fx legs r hs t b := by
  intro hh
  unfold hrT at h
  simp only [Bool.and_eq_true, decide_eq_true_eq] at h
  obtain ⟨⟨e3, e4⟩, h5⟩ := h
  rw [List.any_map, List.any_eq_true] at h5
  obtain ⟨l, hl, e5⟩ := h5
  obtain ⟨k, ho, e⟩ := unders_mem.mp hl
  have e5 : (l.1, l.2.1) = (x.1, x.2.1) := of_decide_eq_true e5
  rw [Prod.mk.injEq] at e5
  have h6 := hh k ho
  unfold shutK at h6
  rw [List.any_eq_false] at h6
  refine h6 x hx ?_
  unfold hrM
  rw [← e, decide_eq_true e5.1.symm, decide_eq_true e5.2.symm, decide_eq_true e3, decide_eq_true e4]
  rfl
theorem neg_lv {fx : Fx} {legs : List Leg} {r : List Str} {b : B4} (h : b.2.1 < 0) : LvOk fx legs r b := fun k ho => by
  have := ho.1
  omega
theorem neg_hr {fx : Fx} {legs : List Leg} {r : List Str} {b : B4} {hs : List Hr} {t : Int} (h : b.2.1 < 0) : HrOk fx legs r hs t b := fun k ho => by
  have := ho.1
  omega
section
variable {P : Program} {w : World} {K : PySem.W.Frag} {mg : Str → Option Value} {base : Heap}
abbrev CdA := ChV × List Str × List Int × CrV × RuV × List W4 × Int × B4 × Int
abbrev cdIn (ch : ChV) (r : List Str) (sd lv : Int) (kd : K5) (ru : RuV) (ws : List W4) : TbIn := ⟨fxOf ch, lgOf ch, r, sd, lv, kd, slipOf ru, ws, hrOf ch⟩
/-- what the code tells -/
def CodeP (n : TbIn) (t : Int) (b : B4) (m : Int) (y : Str) : Prop := (m = 240 ∧ y = "long") ∨ m ≠ 240 ∧ ((y = "" ∧ St3 n t b) ∨ CodeAt n t b y)
structure CdOk (x : CdA) : Prop where
  ch : ChOk x.1
  rt : RtV x.1 x.2.1
  bs : x.2.2.1 = begins (fxOf x.1) x.2.1
  wd : WdOk x.2.2.2.2.2.1
  t0 : 0 ≤ x.2.2.2.2.2.2.1
  bx : BoxOk x.2.2.2.2.2.2.2.1
  hl : (hrOf x.1).length ≤ 1000
  ho : HrsOk (hrOf x.1)
abbrev sp_code (K : Fg) : Sp := sp0 K [] (fCons rChart (fCons (rTpv rStr) (fCons (rLst rInt) (fCons rCrs (fCons rRules (fCons (rLst rWnd) (fCons rInt (fCons rB4 (fOne rInt))))))))) CdOk rStr fun x y => ∀ kd, CodeP (cdIn x.1 x.2.1 x.2.2.2.1.2.1 x.2.2.2.1.2.2 kd x.2.2.2.2.1 x.2.2.2.2.2.1) x.2.2.2.2.2.2.1 x.2.2.2.2.2.2.2.1 x.2.2.2.2.2.2.2.2 y
abbrev N_code : List Str := ["_law_chart_here", "_law_route", "_law_begins_here", "_law_course_here", "_law_rules_here", "_law_winds_here", "_law_tick", "_law_box", "_law_many", "_law_wind", "_law_k", "_law_under", "_law_legs_here", "_law_hour", "_law_leg_here"]
theorem sc_code : FnScope N_code ["_law_chart_here", "_law_route", "_law_begins_here", "_law_course_here", "_law_rules_here", "_law_winds_here", "_law_tick", "_law_box", "_law_many"] (defScope s_code) := ⟨rfl, rfl, rfl, by decide +kernel, rfl, by decide +kernel, by decide +kernel⟩
theorem ok_code (N : Nm K mg) (T : Bt mg) : FnOk P w K mg base CX0 2 N.code.f N.code.fd ["_law_chart_here", "_law_route", "_law_begins_here", "_law_course_here", "_law_rules_here", "_law_winds_here", "_law_tick", "_law_box", "_law_many"] (sp_code K) := by
  refine fn_m N.code.F sc_code [] fun cdv A outer s G H E x Q fam hp hk => ?_
  obtain ⟨ch, r, bs, ⟨cr, sd, lv⟩, ru, ws, t, b, m⟩ := x
  obtain ⟨hc, hr, hbs, hw, t0, hb, hhl, hho⟩ := hp
  dsimp only at hc hr hbs hw t0 hb hhl hho
  subst hbs
  have hk' : ∀ {Γ : Gm} {y : Str}, (∀ kd, CodeP (cdIn ch r sd lv kd ru ws) t b m y) → RT K ⟨[], _, G, H, []⟩ Γ [] rStr y _ := fun {Γ y} e => hk ⟨rfl, e⟩
  clear hk
  have z1 : 100000 ≤ sizeLine := by decide
  have hs := hr.strict hc
  have h2 := hr.two
  have hlen : r.length ≤ 1000 := hr.len
  have hb2 : 2 ≤ (begins (fxOf ch) r).length := by rw [begins_len]; exact h2
  have hb3 : (begins (fxOf ch) r).length ≤ 1000 := by rw [begins_len]; exact hlen
  have hla : ∀ p, laL ((List.range r.length).map (bg (fxOf ch) r)) p = la (fxOf ch) r p := fun p => laL_eq (fx := fxOf ch) h2 p
  have hwn := hw.ok t
  obtain ⟨w0, hw0, hw1⟩ := hw.first
  have A0 := (la_ok (fxOf ch) h2 (mx b.1 0)).lt
  have A1 := (la_ok (fxOf ch) h2 b.1).lt
  have A2 := (la_ok (fxOf ch) h2 b.2.1).lt
  show DS _ K ⟨[], _, G, H, []⟩ [some ⟨rChart, ch⟩, some ⟨(rTpv rStr), r⟩, some ⟨(rLst rInt), begins (fxOf ch) r⟩, some ⟨rCrs, (cr, sd, lv)⟩, some ⟨rRules, ru⟩, some ⟨(rLst rWnd), ws⟩, some ⟨rInt, t⟩, some ⟨rB4, b⟩, some ⟨rInt, m⟩, none, none, none, none, none, none] [] (defBody s_code) _
  refine s_ifP (x := decide (m = 240)) (dt_cmp (d_var (ra := rInt) (x := m) 8 (d_int (o_eqI ⟨rfl, rfl⟩)))) (fun hm => ?_) (fun hm => ?_)
  · exact s_ret (d_str (hk' fun kd => .inl ⟨of_decide_eq_true hm, rfl⟩))
  have hm := of_decide_eq_false hm
  refine s_out ?_
  refine s_ifJ (x := decide (b.2.1 ≥ 0)) (fun _ : Unit => LvOk (fxOf ch) (lgOf ch) r b ∧ HrOk (fxOf ch) (lgOf ch) r (hrOf ch) t b) (fun _ => [some ⟨rChart, ch⟩, some ⟨(rTpv rStr), r⟩, some ⟨(rLst rInt), begins (fxOf ch) r⟩, some ⟨rCrs, (cr, sd, lv)⟩, some ⟨rRules, ru⟩, some ⟨(rLst rWnd), ws⟩, some ⟨rInt, t⟩, some ⟨rB4, b⟩, some ⟨rInt, m⟩, none, none, none, none, none, none]) (fun _ => []) (dt_cmp (d_ix (d_var (ra := rB4) (x := b) 7 (d_int (i_tup 1 (d_int (o_ge ⟨rfl, rfl⟩))))))) (fun hbp => ?_) (fun hbp => ?_) (fun _ hd => ?_)
  · have hbp := of_decide_eq_true hbp
    have ebel : rgI (la (fxOf ch) r (mx b.1 0) : Int) 1 ((la (fxOf ch) r b.2.1 : Int) + 1 - (la (fxOf ch) r (mx b.1 0) : Int)).toNat = below (fxOf ch) r b := by
      unfold below
      rw [if_neg (by omega)]
    refine s_set 11 (d_listRg2 T.list T.range (d_call N.leg_at (ok_leg_at N T) (da_cons (d_var 2 (da_one (d_callB T.max bt_max (da_cons (d_ix (d_var (ra := rB4) (x := b) 7 (d_int (i_tup 0 (da_one (d_int (c_max2 (sw_f ⟨hb2, hb3⟩ (d_bin (d_call N.leg_at (ok_leg_at N T) (da_cons (d_var 2 (da_one (d_ix (d_var (ra := rB4) (x := b) 7 (d_int (i_tup 1 (sw_f ⟨hb2, hb3⟩ (d_int (o_add ⟨?_, ?_⟩)))))))))))))))))))))))))))
    · dsimp only
      rw [hla, hla]
      exact RgOk.of_le (Int.natCast_nonneg _) (by omega) (by show ((la (fxOf ch) r (mx b.1 0) : Nat) : Int) ≤ _; omega) (by omega)
    dsimp only
    rw [hla, hla, show (if 0 > b.1 then 0 else b.1) = mx b.1 0 from rfl, ebel]
    have okU : ∀ x, x ∈ below (fxOf ch) r b → ∃ k : Nat, x = (k : Int) ∧ k + 1 < r.length := fun x hx => by
      obtain ⟨k, e, ho⟩ := below_mem.mp hx
      have l1 := la_lt (fx := fxOf ch) h2 b.2.1
      exact ⟨k, e, by have := ho.2.2; omega⟩
    refine s_lcP 12 (js := [10]) (ra := rInt) (rb := rLeg) (f := fun k : Int => lgAt (lgOf ch) r k.toNat) [("_law_k", 10)] [10] (fun _ => blkOk_by (N := N_code) (sc := defScope s_code) (by decide +kernel)) (w_lst (ra := rInt) (d_var (ra := rLst rInt) (x := below (fxOf ch) r b) 11 ⟨rfl, Nat.le_trans (below_len h2 b) (by omega), fun gg D ys x hx => (g_name 10 ?_), ?_⟩))
    · obtain ⟨k, ex, hk1⟩ := okU x hx
      subst ex
      obtain ⟨l, hl1⟩ := hr.lg k hk1
      have g1 := atI_nat' (at_get (show k < r.length by omega))
      have g2 : atI r ((k : Int) + 1) = some (at_ r (k + 1)) := atI_int (by omega) (by rw [show ((k : Int) + 1).toNat = k + 1 by omega]; exact at_get hk1)
      refine (d_call N.leg (ok_leg N T) (da_cons (d_var 0 (da_cons (d_ix (d_var (ra := rTpv rStr) (x := r) 1 (d_var (ra := rInt) (x := (k : Int)) 10 (i_tpv g1 (da_one (d_ix (d_var (ra := rTpv rStr) (x := r) 1 (d_bin (d_var (ra := rInt) (x := (k : Int)) 10 (d_int (o_add (i_tpv g2 (sw_f ⟨hc.len, l, hl1⟩ ⟨?_, rfl⟩)))))))))))))))))
      rw [Int.toNat_natCast]
      rfl
    show DS _ K _ [some ⟨rChart, ch⟩, some ⟨(rTpv rStr), r⟩, some ⟨(rLst rInt), begins (fxOf ch) r⟩, some ⟨rCrs, (cr, sd, lv)⟩, some ⟨rRules, ru⟩, some ⟨(rLst rWnd), ws⟩, some ⟨rInt, t⟩, some ⟨rB4, b⟩, some ⟨rInt, m⟩, none, none, some ⟨rLst rInt, below (fxOf ch) r b⟩, some ⟨rLst rLeg, unders (fxOf ch) (lgOf ch) r b⟩, none, none] [] _ _
    have hul : (unders (fxOf ch) (lgOf ch) r b).length ≤ sizeLine := by
      unfold unders
      rw [List.length_map]
      exact Nat.le_trans (below_len h2 b) (by omega)
    have hls : ∀ l ∈ unders (fxOf ch) (lgOf ch) r b, PyData.strOk l.1 = true ∧ PyData.strOk l.2.1 = true := fun l hl => by
      obtain ⟨k, ho, e⟩ := unders_mem.mp hl
      have l1 := la_lt (fx := fxOf ch) h2 b.2.1
      obtain ⟨l2, hl2⟩ := hr.lg k (by have := ho.2.2; omega)
      rw [e]
      unfold lgAt
      rw [hl2]
      obtain ⟨a1, a2, _⟩ := hc.so l2 (List.mem_of_find?_eq_some hl2)
      exact ⟨a1, a2⟩
    generalize eu : unders (fxOf ch) (lgOf ch) r b = us at hul hls
    refine s_ifP (x := (us.map (lvT b)).any fun x => x) (dt_val (d_callB T.any bt_any (da_one (d_lcP (js := [14]) (ra := rLeg) (rb := rBool) (f := lvT b) [("_law_leg_here", 14)] [14] (fun _ => blkOk_by (N := N_code) (sc := defScope s_code) (by decide +kernel)) (w_lst (ra := rLeg) (d_var (ra := rLst rLeg) (x := us) 12 ⟨rfl, hul, fun gg D ys l hl => (g_name 14 (d_orP (d_cmp (d_ix (d_var (ra := rB4) (x := b) 7 (d_int (i_tup 2 (d_ix (d_var (ra := rLeg) (x := l) 14 (d_int (i_tup 3 (o_lt ⟨rfl, rfl⟩)))))))))) (fun _ => (d_one (d_cmp (d_ix (d_var (ra := rB4) (x := b) 7 (d_int (i_tup 3 (d_ix (d_var (ra := rLeg) (x := l) 14 (d_int (i_tup 4 (o_gt ⟨rfl, rfl⟩)))))))))))))), (c_anyG ⟨rfl, rfl⟩)⟩)))))) (fun hlv => ?_) (fun hlv => ?_)
    · refine s_ret (d_str (hk' fun kd => .inr ⟨hm, .inr (.inl ⟨rfl, fun h => ?_⟩)⟩))
      have h : LvOk (fxOf ch) (lgOf ch) r b := h
      rw [← lv_any, eu, hlv] at h
      cases h
    rw [← eu] at hlv
    have hlv := lv_any.mp hlv
    refine s_out ?_
    refine s_for (js := [13]) (w_lst (ra := rHour) (d_recP 0 5 rfl chN_nd ?_))
    refine ⟨Unit, fun i _ => ∀ (j : Nat) (x : Hr), j < i → (hrOf ch)[j]? = some x → hrT t us x = false, fun _ => [some ⟨rChart, ch⟩, some ⟨(rTpv rStr), r⟩, some ⟨(rLst rInt), begins (fxOf ch) r⟩, some ⟨rCrs, (cr, sd, lv)⟩, some ⟨rRules, ru⟩, some ⟨(rLst rWnd), ws⟩, some ⟨rInt, t⟩, some ⟨rB4, b⟩, some ⟨rInt, m⟩, none, none, some ⟨rLst rInt, below (fxOf ch) r b⟩, some ⟨rLst rLeg, us⟩, none, none], fun _ => [], ⟨(), fun j x h => absurd h (Nat.not_lt_zero _), ⟨rfl, rfl, rfl, rfl, rfl, rfl, rfl, rfl, rfl, rfl, rfl, trivial⟩, rfl⟩, fun g i h d hx hd => (g_name 13 ?_), fun d hd => ?_⟩
    · have hmem : h ∈ hrOf ch := List.mem_of_getElem? hx
      refine s_ifP (x := hrT t us h) (dt_bool (dp_andP (dt_chainP (d_ix (d_var (ra := rHour) (x := h) 13 (d_int (i_tup 2 (d_var (ra := rInt) (x := t) 6 (o_le ⟨rfl, rfl, fun hb => (d_ix (d_var (ra := rHour) (x := h) 13 (d_int (i_tup 3 (o_le ⟨rfl, rfl⟩)))))⟩))))))) (fun _ => (dp_and1 (dt_val (d_callB T.any bt_any (da_one (d_lcP (js := [14]) (ra := rLeg) (rb := rBool) (f := fun l : Leg => decide ((l.1, l.2.1) = (h.1, h.2.1))) [("_law_leg_here", 14)] [14] (fun _ => blkOk_by (N := N_code) (sc := defScope s_code) (by decide +kernel)) (w_lst (ra := rLeg) (d_var (ra := rLst rLeg) (x := us) 12 ⟨rfl, hul, fun gg D ys l hl => (g_name 14 (d_cmp (d_slice (d_var (ra := rLeg) (x := l) 14 (do_no (do_at (d_int (sl_p2 (by decide) (d_slice (d_var (ra := rHour) (x := h) 13 (do_no (do_at (d_int (sl_p2 (by decide) (o_eqD (hls l hl) (hho h hmem) ⟨rfl, rfl⟩))))))))))))))), (c_anyG ⟨rfl, rfl⟩)⟩)))))))))) (fun hb => ?_) (fun hb => ?_)
      · refine s_ret (d_str (rt_in (hk' fun kd => .inr ⟨hm, .inr (.inr (.inl ⟨rfl, hlv, ?_⟩))⟩)))
        exact hr_no hmem (by rw [eu]; exact hb)
      · refine s_out (s_next () (fun j x hj hjx => ?_) ⟨rfl, rfl, rfl, rfl, rfl, rfl, rfl, rfl, rfl, rfl, rfl, trivial⟩ rfl)
        by_cases e : j = i
        · subst e
          rw [hx] at hjx
          cases hjx
          exact hb
        · exact hd j x (by omega) hjx
    · have hok : HrOk (fxOf ch) (lgOf ch) r (hrOf ch) t b := hr_ok fun x hx => by
        obtain ⟨j, hj⟩ := List.getElem?_of_mem hx
        rw [eu]
        exact hd j x (List.getElem?_eq_some_iff.mp hj).1 hj
      exact s_nil fun σ G H W => ⟨(), G, ⟨hlv, hok⟩, W.wk ⟨rfl, rfl, rfl, rfl, rfl, rfl, rfl, rfl, rfl, trivial⟩⟩
  · have hbp := of_decide_eq_false hbp
    exact s_join () ⟨neg_lv (by omega), neg_hr (by omega)⟩ ⟨rfl, rfl, rfl, rfl, rfl, rfl, rfl, rfl, rfl, trivial⟩ rfl
  · obtain ⟨hlv, hhr⟩ := hd
    refine s_set 9 (d_call N.wind_at (ok_wind_at N T) (da_cons (d_var 5 (da_one (d_var 6 (sw_f ⟨⟨w0, hw0, by dsimp only; omega⟩, hw.len⟩ ?_))))))
    refine s_for (js := [10]) (w_rng2 T.range (d_call N.leg_at (ok_leg_at N T) (da_cons (d_var 2 (da_one (d_ix (d_var (ra := rB4) (x := b) 7 (d_int (i_tup 0 (sw_f ⟨hb2, hb3⟩ (d_bin (d_call N.leg_at (ok_leg_at N T) (da_cons (d_var 2 (da_one (d_ix (d_var (ra := rB4) (x := b) 7 (d_int (i_tup 1 (sw_f ⟨hb2, hb3⟩ (d_int (o_add ⟨?_, ?_⟩))))))))))))))))))))))
    · dsimp only
      rw [hla, hla]
      omega
    dsimp only
    rw [hla, hla]
    refine ⟨Unit, fun i _ => ∀ j, j < i → 1 ≤ (bnd (fxOf ch) r sd (slipOf ru) (windAt ws t) (la (fxOf ch) r b.1 + j)).1, fun _ => [some ⟨rChart, ch⟩, some ⟨(rTpv rStr), r⟩, some ⟨(rLst rInt), begins (fxOf ch) r⟩, some ⟨rCrs, (cr, sd, lv)⟩, some ⟨rRules, ru⟩, some ⟨(rLst rWnd), ws⟩, some ⟨rInt, t⟩, some ⟨rB4, b⟩, some ⟨rInt, m⟩, some ⟨rWnd, windAt ws t⟩, none, none, none, none, none], fun _ => [], ⟨(), fun j h => absurd h (Nat.not_lt_zero _), ⟨rfl, rfl, rfl, rfl, rfl, rfl, rfl, rfl, rfl, rfl, trivial⟩, rfl⟩, fun g i x d hx hd => (g_name 10 ?_), fun d hd => ?_⟩
    · obtain ⟨hlt, ex⟩ := rgI_item hx
      have ex : x = ((la (fxOf ch) r b.1 + i : Nat) : Int) := by omega
      subst ex
      have hi2 : la (fxOf ch) r b.1 + i ≤ la (fxOf ch) r b.2.1 := by omega
      refine s_ifP (dt_cmp (d_ix (d_call N.bounds (ok_bounds N T) (da_cons (d_var 0 (da_cons (d_var 1 (da_cons (d_var 2 (da_cons (d_var (ra := rInt) (x := ((la (fxOf ch) r b.1 + i : Nat) : Int)) 10 (da_cons (d_ix (d_var (ra := rCrs) (x := (cr, sd, lv)) 3 (d_int (i_tup 1 (da_cons (d_recP 4 4 rfl ruN_nd (da_one (d_var 9 (sw_f ⟨hr, hs, rfl, Int.natCast_nonneg _, by dsimp only; rw [Int.toNat_natCast]; omega, hwn⟩ (d_int (i_tup 0 (d_int (o_lt ⟨rfl, rfl⟩))))))))))))))))))))))))) (fun hb => ?_) (fun hb => ?_)
      · refine s_ret (d_str (rt_in (hk' fun kd => .inr ⟨hm, .inr (.inr (.inr ⟨rfl, hlv, hhr, fun h => ?_⟩))⟩)))
        have h1 : 1 ≤ (bnd (fxOf ch) r sd (slipOf ru) (windAt ws t) (la (fxOf ch) r b.1 + i)).1 := h (la (fxOf ch) r b.1 + i) (Nat.le_add_right _ _) hi2
        have hb : (bnd (fxOf ch) r sd (slipOf ru) (windAt ws t) ((la (fxOf ch) r b.1 + i : Nat) : Int).toNat).1 < 1 := of_decide_eq_true hb
        rw [Int.toNat_natCast] at hb
        omega
      · refine s_out (s_next () (fun j hj => ?_) ⟨rfl, rfl, rfl, rfl, rfl, rfl, rfl, rfl, rfl, rfl, trivial⟩ rfl)
        by_cases e : j = i
        · subst e
          have hb : ¬ (bnd (fxOf ch) r sd (slipOf ru) (windAt ws t) ((la (fxOf ch) r b.1 + j : Nat) : Int).toNat).1 < 1 := of_decide_eq_false hb
          rw [Int.toNat_natCast] at hb
          omega
        · exact hd j (by omega)
    · rw [rgI_len] at hd
      refine s_ret (d_str (hk' fun kd => .inr ⟨hm, .inl ⟨rfl, hlv, hhr, fun k hk1 hk2 => ?_⟩⟩))
      have := hd (k - la (fxOf ch) r b.1) (by have hk1 : la (fxOf ch) r b.1 ≤ k := hk1; have hk2 : k ≤ la (fxOf ch) r b.2.1 := hk2; omega)
      rw [show la (fxOf ch) r b.1 + (k - la (fxOf ch) r b.1) = k by have hk1 : la (fxOf ch) r b.1 ≤ k := hk1; omega] at this
      exact this
end
end Law
set_option Elab.async false
set_option linter.all false
set_option maxRecDepth 100000
set_option maxHeartbeats 4100000
/-! TcB: tubes by the law, what is found, told (k13). -/
namespace Law
open PySem L2 Evl Sk MP M10
local macro_rules | `(tactic| walk_at "sc") => `(tactic| first | omega | assumption | (with_reducible exact mulOk) | (with_reducible exact smOk) | (with_reducible exact ⟨by decide, smOk⟩) | decide | (simp only [List.length_cons, List.length_nil]; decide) | exact divOk (by omega))
abbrev rCT : Rp (Str × Int) := rTup (fCons rStr (fOne rInt))
/-- boxes of one's own, or a code and its tick -/
def rRes : Rp (Addr ⊕ (Str × Int)) := ⟨fun K G v x => match x with
  | .inl q => v = .ref q
  | .inr p => rCT.rep K G v p, fun {K G H v x} e h => match x, h with
  | .inl _, h => h
  | .inr p, h => rCT.mono e h⟩
def ResP (n : TbIn) (t : Int) (b : B4) : Addr ⊕ (Str × Int) → List Own → Prop
  | .inl q, O' => ∃ bs, TubeOut n t b bs ∧ O' = [⟨q, oLst rB4, bs⟩]
  | .inr p, O' => TubeErr n t b p.1 p.2 ∧ O' = []
section
variable {P : Program} {w : World} {K : PySem.W.Frag} {mg : Str → Option Value} {base : Heap}
abbrev LtA := ChV × List Str × List Int × CrV × K5 × RuV × List W4 × Int × B4
structure LtOk (x : LtA) : Prop where
  ch : ChOk x.1
  rt : RtV x.1 x.2.1
  bs : x.2.2.1 = begins (fxOf x.1) x.2.1
  sl : 0 ≤ slipOf x.2.2.2.2.2.1
  wd : WdOk x.2.2.2.2.2.2.1
  kd : x.2.2.2.2.1.2.2.2.1 ≤ x.2.2.2.2.1.2.2.2.2
  t0 : 0 ≤ x.2.2.2.2.2.2.2.1
  bx : BoxOk x.2.2.2.2.2.2.2.2
  hl : (hrOf x.1).length ≤ 1000
  ho : HrsOk (hrOf x.1)
abbrev sp_tube (K : Fg) : Sp := spM K [] (fCons rChart (fCons (rTpv rStr) (fCons (rLst rInt) (fCons rCrs (fCons rK5 (fCons rRules (fCons (rLst rWnd) (fCons rInt (fOne rB4))))))))) LtOk (fun _ => []) rRes fun x y O' => ResP (cdIn x.1 x.2.1 x.2.2.2.1.2.1 x.2.2.2.1.2.2 x.2.2.2.2.1 x.2.2.2.2.2.1 x.2.2.2.2.2.2.1) x.2.2.2.2.2.2.2.1 x.2.2.2.2.2.2.2.2 y O'
abbrev N_tube : List Str := ["_law_chart_here", "_law_route", "_law_begins_here", "_law_course_here", "_law_kind_here", "_law_rules_here", "_law_winds_here", "_law_tick", "_law_box", "_law_boxes", "_law_k", "_law_code_here"]
theorem sc_tube : FnScope N_tube ["_law_chart_here", "_law_route", "_law_begins_here", "_law_course_here", "_law_kind_here", "_law_rules_here", "_law_winds_here", "_law_tick", "_law_box"] (defScope s_tube) := ⟨rfl, rfl, rfl, by decide +kernel, rfl, by decide +kernel, by decide +kernel⟩
theorem ok_tube (N : Nm K mg) (T : Bt mg) : FnOk P w K mg base CX0 4 N.tube.f N.tube.fd ["_law_chart_here", "_law_route", "_law_begins_here", "_law_course_here", "_law_kind_here", "_law_rules_here", "_law_winds_here", "_law_tick", "_law_box"] (sp_tube K) := by
  refine fn_m N.tube.F sc_tube [] fun cdv A outer s G H E x Q fam hp hk => ?_
  obtain ⟨ch, r, bg0, ⟨cr, sd, lv⟩, kd, ru, ws, t, b0⟩ := x
  obtain ⟨hc, hr, hbs, hsl, hw, hkd, t0, hb0, hhl, hho⟩ := hp
  dsimp only at hc hr hbs hsl hw hkd t0 hb0 hhl hho
  subst hbs
  generalize en : cdIn ch r sd lv kd ru ws = n
  have hkE : ∀ {Γ : Gm} {O : List Own} {c : Str} {t' : Int}, TubeErr n t b0 c t' → RT K ⟨[], _, G, H, []⟩ Γ O rRes (.inr (c, t')) _ := fun {Γ O c t'} e => rt_drop (hk ⟨by rw [← en] at e; exact e, rfl⟩)
  have hkO : ∀ {Γ : Gm} {q : Addr} {bs : List B4}, TubeOut n t b0 bs → RT K ⟨[], _, G, H, []⟩ Γ [⟨q, oLst rB4, bs⟩] rRes (.inl q) _ := fun {Γ q bs} e => hk ⟨bs, by rw [← en] at e; exact e, rfl⟩
  clear hk
  have z1 : 100000 ≤ sizeLine := by decide
  have hs := hr.strict hc
  have h2 := hr.two
  have hlen : r.length ≤ 1000 := hr.len
  have hb2 : 2 ≤ (begins (fxOf ch) r).length := by rw [begins_len]; exact h2
  have hno : ∀ t', n.nb t' = ⟨fxOf ch, lgOf ch, r, sd, lv, kd, slipOf ru, windAt ws t'⟩ := fun t' => by rw [← en]; rfl
  have hsp : SpOk n ↔ kd.2.1 ≤ sd ∧ sd ≤ kd.2.2.1 := by rw [← en]; exact Iff.rfl
  have htt : tot n.fx n.r = tot (fxOf ch) r := by rw [← en]
  have hbo : ∀ {bs b}, TubeSt n t b0 bs b → BoxOk b := fun h => (h.box hb0 (by rw [← en]; exact fun t' k => slow_le hr hs hsl hw t' k)).1
  have gt : atI (begins (fxOf ch) r) ((begins (fxOf ch) r).length - 1 : Int) = some (tot (fxOf ch) r) := by
    have hbl := begins_len (fxOf ch) r
    refine atI_int (by omega) ?_
    rw [show (((begins (fxOf ch) r).length : Int) - 1).toNat = r.length - 1 by omega]
    exact bg_get (by omega)
  show DS _ K ⟨[], _, G, H, []⟩ [some ⟨rChart, ch⟩, some ⟨(rTpv rStr), r⟩, some ⟨(rLst rInt), begins (fxOf ch) r⟩, some ⟨rCrs, (cr, sd, lv)⟩, some ⟨rK5, kd⟩, some ⟨rRules, ru⟩, some ⟨(rLst rWnd), ws⟩, some ⟨rInt, t⟩, some ⟨rB4, b0⟩, none, none, none] [] (defBody s_tube) _
  refine s_ifP (x := decide (sd < kd.2.1) || decide (sd > kd.2.2.1)) (dt_bool (dp_orP (dt_cmp (d_ix (d_var (ra := rCrs) (x := (cr, sd, lv)) 3 (d_int (i_tup 1 (d_ix (d_var (ra := rK5) (x := kd) 4 (d_int (i_tup 1 (o_lt ⟨rfl, rfl⟩)))))))))) (fun hb => (dp_or1 (dt_cmp (d_ix (d_var (ra := rCrs) (x := (cr, sd, lv)) 3 (d_int (i_tup 1 (d_ix (d_var (ra := rK5) (x := kd) 4 (d_int (i_tup 2 (o_gt ⟨rfl, rfl⟩)))))))))))))) (fun hb => ?_) (fun hb => ?_)
  · refine s_ret (d_re (x := fun _ _ => True) (ra := rCT) (rc := rRes) (d_tup (da_cons (d_str (da_one (d_var (ra := rInt) (x := t) 7 ⟨.inr ("speed", t), fun h => h, hkE (.inl ⟨rfl, rfl, fun h => ?_⟩)⟩))))))
    obtain ⟨h1, h2⟩ := hsp.mp h
    rw [Bool.or_eq_true, decide_eq_true_eq, decide_eq_true_eq] at hb
    omega
  have hspo : SpOk n := by
    rw [Bool.or_eq_false_iff, decide_eq_false_iff_not, decide_eq_false_iff_not] at hb
    exact hsp.mpr (by omega)
  refine s_out ?_
  refine s_set 9 (d_lstO (ra := rB4) (da_all0 ⟨(by walk_at "sc"), fun q9 hq9 => ?_⟩))
  refine s_for (js := [10]) (w_rng1 T.range (d_int ⟨(by omega), ?_⟩))
  refine ⟨List B4 × B4, fun i d => TubeSt n t b0 d.1 d.2 ∧ d.1.length = i, fun d => [some ⟨rChart, ch⟩, some ⟨(rTpv rStr), r⟩, some ⟨(rLst rInt), begins (fxOf ch) r⟩, some ⟨rCrs, (cr, sd, lv)⟩, some ⟨rK5, kd⟩, some ⟨rRules, ru⟩, some ⟨(rLst rWnd), ws⟩, some ⟨rInt, t⟩, some ⟨rB4, d.2⟩, some ⟨rAdr, q9⟩, none, none], fun d => [⟨q9, oLst rB4, d.1⟩], ⟨([], b0), ⟨.nil, rfl⟩, ⟨rfl, rfl, rfl, rfl, rfl, rfl, rfl, rfl, rfl, rfl, trivial⟩, rfl⟩, fun g i k d hx hd => (g_name 10 ?_), fun d hd => ?_⟩
  · obtain ⟨bs, b⟩ := d
    obtain ⟨hd, hli⟩ := hd
    have hd : TubeSt n t b0 bs b := hd
    have hli : bs.length = i := hli
    have hlen := hd.len
    have hb4 := hbo hd
    obtain ⟨hlt, ex⟩ := rgI_item hx
    have ex : k = (i : Int) := by omega
    subst ex
    dsimp only
    refine s_ifP (x := decide (b.1 ≥ tot (fxOf ch) r)) (dt_cmp (d_ix (d_var (ra := rB4) (x := b) 8 (d_int (i_tup 0 (d_ix (d_var (ra := rLst rInt) (x := begins (fxOf ch) r) 2 (d_bin (d_callB T.len bt_len (da_one (d_var (ra := rLst rInt) (x := begins (fxOf ch) r) 2 (c_lenL (d_int (o_sub (i_lst gt (o_ge ⟨rfl, rfl⟩)))))))))))))))) (fun hb => ?_) (fun hb => ?_)
    · have hb := of_decide_eq_true hb
      exact s_ret (d_re (x := fun _ _ => True) (ra := rAdr) (rc := rRes) (d_var 9 ⟨.inl q9, fun h => h, rt_in (hkO ⟨hspo, b, hd, by rw [htt]; exact hb⟩)⟩))
    have hb := of_decide_eq_false hb
    have hlt2 : b.1 < tot n.fx n.r := by rw [htt]; omega
    refine s_out ?_
    refine s_set 11 (d_call N.code (ok_code N T) (da_cons (d_var 0 (da_cons (d_var 1 (da_cons (d_var 2 (da_cons (d_var (ra := rCrs) (x := (cr, sd, lv)) 3 (da_cons (d_var 5 (da_cons (d_var 6 (da_cons (d_bin (d_var (ra := rInt) (x := t) 7 (d_var (ra := rInt) (x := (i : Int)) 10 (o_add (da_cons (d_var (ra := rB4) (x := b) 8 (da_one (d_var (ra := rInt) (x := (i : Int)) 10 (sw_0 ⟨hc, hr, rfl, hw, by dsimp only; omega, hb4, hhl, hho⟩ (fun y hy => ?_))))))))))))))))))))))))
    have hy : CodeP n (t + i) b i y := by
      have z := hy kd
      rw [← en]
      exact z
    refine s_ifP (x := !decide (y = "")) (dt_cmp (d_var (ra := rStr) (x := y) 11 (d_str (o_neS ⟨rfl, rfl⟩)))) (fun hc2 => ?_) (fun hc2 => ?_)
    · refine s_ret (d_re (x := fun _ _ => True) (ra := rCT) (rc := rRes) (d_tup (da_cons (d_var (ra := rStr) (x := y) 11 (da_one (d_bin (d_var (ra := rInt) (x := t) 7 (d_var (ra := rInt) (x := (i : Int)) 10 (o_add ⟨.inr (y, t + (i : Int)), fun h => h, rt_in (hkE (.inr ⟨hspo, bs, b, hd, hlt2, by rw [hli], ?_⟩))⟩)))))))))
      rcases hy with ⟨h1, h2⟩ | ⟨h1, ⟨h2, _⟩ | h2⟩
      · exact .inl ⟨by omega, h2⟩
      · exfalso
        rw [h2] at hc2
        simp at hc2
      · exact .inr ⟨by omega, h2⟩
    refine s_out ?_
    have hc2 : y = "" := by simpa using hc2
    have hok : i ≠ 240 ∧ St3 n (t + i) b := by
      rcases hy with ⟨h1, h2⟩ | ⟨h1, ⟨h2, h3⟩ | ⟨h2, _⟩ | ⟨h2, _⟩ | ⟨h2, _⟩⟩
      · rw [hc2] at h2
        exact absurd h2 (by decide)
      · exact ⟨by omega, h3⟩
      · rw [hc2] at h2
        exact absurd h2 (by decide)
      · rw [hc2] at h2
        exact absurd h2 (by decide)
      · rw [hc2] at h2
        exact absurd h2 (by decide)
    refine s_expr (d_app (ra := rB4) (d_var 9 ⟨_, _, inferInstance, (d_var (ra := rB4) (x := b) 8 ⟨_, _, inferInstance, (by omega), ?_⟩)⟩))
    refine s_set 8 (d_call N.law_next (ok_law_next N T) (da_cons (d_var 0 (da_cons (d_var 1 (da_cons (d_var 2 (da_cons (d_var (ra := rCrs) (x := (cr, sd, lv)) 3 (da_cons (d_var (ra := rK5) (x := kd) 4 (da_cons (d_var 5 (da_cons (d_var 6 (da_cons (d_bin (d_var (ra := rInt) (x := t) 7 (d_var (ra := rInt) (x := (i : Int)) 10 (o_add (da_one (d_var (ra := rB4) (x := b) 8 (sw_0 ⟨hc, hr, rfl, hw, hkd, by dsimp only; omega, hb4⟩ (fun z hz => ?_))))))))))))))))))))))))
    have hz : NbOk (n.nb (t + bs.length)) b z := by rw [hno, hli]; exact hz
    exact s_next (bs ++ [b], z) ⟨hd.snoc hlt2 (by omega) (by rw [hli]; exact hok.2) hz, by dsimp only; rw [List.length_append, List.length_singleton, hli]⟩ ⟨rfl, rfl, rfl, rfl, rfl, rfl, rfl, rfl, rfl, rfl, trivial⟩ rfl
  · exfalso
    have h1 := hd.1.len
    have h2 := hd.2
    rw [rgI_len] at h2
    omega
end
end Law
set_option Elab.async false
set_option linter.all false
set_option maxRecDepth 100000
set_option maxHeartbeats 4100000
/-! MTd: a tube has one end. -/
namespace MP
open PySem L2 Evl Sk M10
variable {n : TbIn} {t : Int} {b0 b b' : B4} {bs bs' : List B4}
theorem TubeSt.cases (h : TubeSt n t b0 bs b) : (bs = [] ∧ b = b0) ∨ ∃ cs c, bs = cs ++ [c] ∧ TubeSt n t b0 cs c ∧ c.1 < tot n.fx n.r ∧ cs.length < 240 ∧ St3 n (t + cs.length) c ∧ NbOk (n.nb (t + cs.length)) c b := by
  cases h with
  | nil => exact .inl ⟨rfl, rfl⟩
  | snoc h lt len ok nx => exact .inr ⟨_, _, rfl, h, lt, len, ok, nx⟩
theorem TubeSt.uniq : ∀ (m : Nat) {bs bs' : List B4} {b b' : B4}, bs.length = m → bs'.length = m → TubeSt n t b0 bs b → TubeSt n t b0 bs' b' → bs = bs' ∧ b = b'
  | 0, bs, bs', b, b', e, e', h, h' => by
    have z : bs = [] := List.length_eq_zero_iff.mp e
    have z' : bs' = [] := List.length_eq_zero_iff.mp e'
    exact ⟨by rw [z, z'], by rw [h.nil_eq z, h'.nil_eq z']⟩
  | m + 1, bs, bs', b, b', e, e', h, h' => by
    rcases h.cases with ⟨z, _⟩ | ⟨cs, c, e1, h1, _, _, _, nx⟩
    · rw [z] at e
      cases e
    rcases h'.cases with ⟨z, _⟩ | ⟨cs', c', e1', h1', _, _, _, nx'⟩
    · rw [z] at e'
      cases e'
    subst e1 e1'
    rw [List.length_append, List.length_singleton] at e e'
    obtain ⟨q1, q2⟩ := TubeSt.uniq m (by omega) (by omega) h1 h1'
    subst q1 q2
    exact ⟨rfl, nx.eq nx'⟩
theorem TubeSt.cut (h : TubeSt n t b0 bs b) : ∀ m, m < bs.length → ∃ cs c, cs.length = m ∧ TubeSt n t b0 cs c ∧ c.1 < tot n.fx n.r ∧ m < 240 ∧ St3 n (t + m) c := by
  induction h with
  | nil => intro m hm; exact absurd hm (Nat.not_lt_zero _)
  | @snoc cs c c' h lt len ok nx ih =>
    intro m hm
    rw [List.length_append, List.length_singleton] at hm
    by_cases z : m < cs.length
    · exact ih m z
    · have e : m = cs.length := by omega
      subst e
      exact ⟨cs, c, rfl, h, lt, len, ok⟩
theorem CodeAt.one {c c' : Str} (h : CodeAt n t b c) (h' : CodeAt n t b c') : c = c' := by
  rcases h with ⟨e, a1⟩ | ⟨e, a1, a2⟩ | ⟨e, a1, a2, a3⟩ <;> rcases h' with ⟨e', b1⟩ | ⟨e', b1, b2⟩ | ⟨e', b1, b2, b3⟩ <;> first | exact e.trans e'.symm | exact absurd b1 a1 | exact absurd a1 b1 | exact absurd b2 a2 | exact absurd a2 b2
theorem CodeAt.no {c : Str} (h : CodeAt n t b c) (h' : St3 n t b) : False := by
  obtain ⟨b1, b2, b3⟩ := h'
  rcases h with ⟨e, a1⟩ | ⟨e, a1, a2⟩ | ⟨e, a1, a2, a3⟩
  · exact a1 b1
  · exact a2 b2
  · exact a3 b3
theorem TubeOut.eq (h : TubeOut n t b0 bs) (h' : TubeOut n t b0 bs') : bs = bs' := by
  obtain ⟨_, b, hs, hb⟩ := h
  obtain ⟨_, b', hs', hb'⟩ := h'
  rcases Nat.lt_trichotomy bs.length bs'.length with z | z | z
  · obtain ⟨cs, c, e, h1, h2, _⟩ := hs'.cut _ z
    have := (TubeSt.uniq _ rfl e hs h1).2
    subst this
    omega
  · exact (TubeSt.uniq _ rfl z.symm hs hs').1
  · obtain ⟨cs, c, e, h1, h2, _⟩ := hs.cut _ z
    have := (TubeSt.uniq _ rfl e hs' h1).2
    subst this
    omega
theorem TubeErr.no {c : Str} {t' : Int} (h : TubeErr n t b0 c t') (h' : TubeOut n t b0 bs') : False := by
  obtain ⟨sp, b', hs', hb'⟩ := h'
  rcases h with ⟨_, _, z⟩ | ⟨_, bs, b, hs, lt, e, hc⟩
  · exact z sp
  rcases Nat.lt_trichotomy bs.length bs'.length with z | z | z
  · obtain ⟨cs, c2, e2, h1, h2, h3, h4⟩ := hs'.cut _ z
    have := (TubeSt.uniq _ rfl e2 hs h1).2
    subst this
    rcases hc with ⟨q, _⟩ | ⟨_, q⟩
    · omega
    · rw [e] at q
      exact q.no h4
  · have := (TubeSt.uniq _ rfl z.symm hs hs').2
    subst this
    omega
  · obtain ⟨cs, c2, e2, h1, h2, _⟩ := hs.cut _ z
    have := (TubeSt.uniq _ rfl e2 hs' h1).2
    subst this
    omega
theorem TubeErr.eq {c c' : Str} {t1 t2 : Int} (h : TubeErr n t b0 c t1) (h' : TubeErr n t b0 c' t2) : c = c' ∧ t1 = t2 := by
  rcases h with ⟨e1, e2, z⟩ | ⟨sp, bs, b, hs, lt, e, hc⟩
  · rcases h' with ⟨e1', e2', _⟩ | ⟨sp', _⟩
    · exact ⟨by rw [e1, e1'], by rw [e2, e2']⟩
    · exact absurd sp' z
  rcases h' with ⟨_, _, z'⟩ | ⟨_, bs', b', hs', lt', e', hc'⟩
  · exact absurd sp z'
  rcases Nat.lt_trichotomy bs.length bs'.length with z | z | z
  · exfalso
    obtain ⟨cs, c2, e2, h1, h2, h3, h4⟩ := hs'.cut _ z
    have := (TubeSt.uniq _ rfl e2 hs h1).2
    subst this
    rcases hc with ⟨q, _⟩ | ⟨_, q⟩
    · omega
    · rw [e] at q
      exact q.no h4
  · obtain ⟨q1, q2⟩ := TubeSt.uniq _ rfl z.symm hs hs'
    subst q1 q2
    have et : t1 = t2 := by rw [e, e']
    subst et
    refine ⟨?_, rfl⟩
    rcases hc with ⟨q, r⟩ | ⟨q, r⟩ <;> rcases hc' with ⟨q', r'⟩ | ⟨q', r'⟩
    · rw [r, r']
    · omega
    · omega
    · exact r.one r'
  · exfalso
    obtain ⟨cs, c2, e2, h1, h2, h3, h4⟩ := hs.cut _ z
    have := (TubeSt.uniq _ rfl e2 hs' h1).2
    subst this
    rcases hc' with ⟨q, _⟩ | ⟨_, q⟩
    · omega
    · rw [e'] at q
      exact q.no h4
theorem CodeAt.so {c : Str} (h : CodeAt n t b c) : PyData.strOk c = true := by
  rcases h with ⟨e, _⟩ | ⟨e, _⟩ | ⟨e, _⟩ <;> rw [e] <;> decide +kernel
theorem TubeErr.so {c : Str} {t' : Int} (h : TubeErr n t b0 c t') : PyData.strOk c = true := by
  rcases h with ⟨e, _⟩ | ⟨_, bs, b, _, _, _, ⟨_, e⟩ | ⟨_, hc⟩⟩
  · rw [e]
    decide +kernel
  · rw [e]
    decide +kernel
  · exact hc.so
end MP
set_option Elab.async false
set_option linter.all false
set_option maxRecDepth 100000
set_option maxHeartbeats 4100000
/-! SqA: how close two segments come, in plain Lean. -/
namespace Law
abbrev Pt := Int × Int
abbrev Sg := Int × Int × Int × Int × Int
def crV (o a b : Pt) : Int := (a.1 - o.1) * (b.2 - o.2) - (a.2 - o.2) * (b.1 - o.1)
def dtV (o a b : Pt) : Int := (a.1 - o.1) * (b.1 - o.1) + (a.2 - o.2) * (b.2 - o.2)
def psV (p s e : Pt) : Pt := if dtV s e p ≤ 0 then (dtV p s s, 1) else if dtV s e e ≤ dtV s e p then (dtV p e e, 1) else (crV s e p * crV s e p, dtV s e e)
def sgV (n : Int) : Int := (if 0 < n then 1 else 0) - (if n < 0 then 1 else 0)
def csV (s e o t : Pt) : Bool := decide (sgV (crV s e o) * sgV (crV s e t) < 0) && decide (sgV (crV o t s) * sgV (crV o t e) < 0)
def sA (x y : Sg) : Pt := (x.1 * y.2.2.2.2, x.2.1 * y.2.2.2.2)
def sB (x y : Sg) : Pt := (x.2.2.1 * y.2.2.2.2, x.2.2.2.1 * y.2.2.2.2)
abbrev Q4 := Pt × Pt × Pt × Pt
def enV (x y : Sg) : Q4 := (sA x y, sB x y, sA y x, sB y x)
def blV (q : Int) (z : Pt) : Bool := decide (z.1 < q * z.2)
def pcV (p a b : Pt) (q : Int) : Bool := if dtV a b p ≤ 0 then decide (dtV a p p < q) else if dtV a b b ≤ dtV a b p then decide (dtV b p p < q) else decide (crV a b p * crV a b p < q * dtV a b b)
def lqV (x y : Sg) (l : Int) : Int := l * l * x.2.2.2.2 * x.2.2.2.2 * y.2.2.2.2 * y.2.2.2.2
def crB (a b p q : Pt) : Bool := decide (crV a b p * crV a b q < 0) && decide (crV p q a * crV p q b < 0)
def lcV (x y : Sg) (l : Int) : Bool := (decide (0 < lqV x y l) && crB (sA x y) (sB x y) (sA y x) (sB y x)) || ((pcV (sA x y) (sA y x) (sB y x) (lqV x y l) || pcV (sB x y) (sA y x) (sB y x) (lqV x y l)) || (pcV (sA y x) (sA x y) (sB x y) (lqV x y l) || pcV (sB y x) (sA x y) (sB x y) (lqV x y l)))
theorem mul_self_nn (z : Int) : 0 ≤ z * z := (Int.le_total 0 z).elim (fun h => Int.mul_nonneg h h) fun h => Int.mul_nonneg_of_nonpos_of_nonpos h h
theorem dt_self (a b : Pt) : dtV a b b = dtV b a a := by
  unfold dtV
  grind
theorem ps_pc (p s e : Pt) (q : Int) : blV q (psV p s e) = pcV p s e q := by
  unfold blV psV pcV
  rw [dt_self p s, dt_self p e]
  split
  · simp
  · split
    · simp
    · rfl
theorem sg_neg (a b : Int) : sgV a * sgV b < 0 ↔ a * b < 0 := by
  unfold sgV
  rcases Int.lt_trichotomy a 0 with h | h | h <;> rcases Int.lt_trichotomy b 0 with h' | h' | h'
  · have := Int.mul_pos_of_neg_of_neg h h'
    simp [h, h', Int.lt_asymm h, Int.lt_asymm h']
    omega
  · subst h'
    simp
  · have := Int.mul_neg_of_neg_of_pos h h'
    simp [h, h', Int.lt_asymm h, Int.lt_asymm h', this]
  · subst h
    simp
  · subst h
    simp
  · subst h
    simp
  · have := Int.mul_neg_of_pos_of_neg h h'
    simp [h, h', Int.lt_asymm h, Int.lt_asymm h', this]
  · subst h'
    simp
  · have := Int.mul_pos h h'
    simp [h, h', Int.lt_asymm h, Int.lt_asymm h']
    omega
theorem cs_cr (a b p q : Pt) : csV a b p q = crB a b p q := by
  unfold csV crB
  rw [decide_eq_decide.mpr (sg_neg _ _), decide_eq_decide.mpr (sg_neg _ _)]
theorem lq_pos {x y : Sg} {l : Int} (hx : 1 ≤ x.2.2.2.2) (hy : 1 ≤ y.2.2.2.2) (hl : 0 ≤ l) : 0 < lqV x y l ↔ 0 < l := by
  unfold lqV
  constructor
  · intro h
    by_cases h0 : l = 0
    · subst h0
      simp at h
    · omega
  · intro h
    exact Int.mul_pos (Int.mul_pos (Int.mul_pos (Int.mul_pos (Int.mul_pos h h) (by omega)) (by omega)) (by omega)) (by omega)
theorem lq_comm (x y : Sg) (l : Int) : lqV y x l = lqV x y l := by
  unfold lqV
  grind
theorem lc_comm (x y : Sg) (l : Int) : lcV y x l = lcV x y l := by
  unfold lcV crB
  rw [lq_comm x y, Bool.and_comm (decide (crV (sA y x) (sB y x) (sA x y) * _ < 0)), Bool.or_comm (pcV (sA y x) (sA x y) (sB x y) (lqV x y l) || _)]
theorem cr_swap (a b p : Pt) : crV b a p = -crV a b p := by
  unfold crV
  grind
theorem dt_swap (a b p : Pt) : dtV b a p = dtV a b b - dtV a b p := by
  unfold dtV
  grind
theorem dt_zero {a b : Pt} (h : dtV a b b ≤ 0) : a = b := by
  unfold dtV at h
  have h1 := mul_self_nn (b.1 - a.1)
  have h2 := mul_self_nn (b.2 - a.2)
  have e1 : (b.1 - a.1) * (b.1 - a.1) = 0 := by omega
  have e2 : (b.2 - a.2) * (b.2 - a.2) = 0 := by omega
  have f1 := (Int.mul_eq_zero.mp e1).elim id id
  have f2 := (Int.mul_eq_zero.mp e2).elim id id
  exact Prod.ext (by omega) (by omega)
theorem pc_swap (p a b : Pt) (q : Int) : pcV p b a q = pcV p a b q := by
  by_cases h : dtV a b b ≤ 0
  · rw [dt_zero h]
  · unfold pcV
    have e := dt_self a b
    rw [cr_swap a b p, dt_swap a b p, ← e, Int.neg_mul_neg]
    split
    · split
      · omega
      · split
        · rfl
        · omega
    · split
      · split
        · rfl
        · omega
      · split
        · omega
        · split
          · omega
          · rfl
theorem any_swap {α β : Type} (xs : List α) (ys : List β) (f : α → β → Bool) : (ys.any fun y => xs.any fun x => f x y) = xs.any fun x => ys.any fun y => f x y := by
  rw [Bool.eq_iff_iff]
  simp only [List.any_eq_true]
  exact ⟨fun ⟨y, hy, x, hx, h⟩ => ⟨x, hx, y, hy, h⟩, fun ⟨x, hx, y, hy, h⟩ => ⟨y, hy, x, hx, h⟩⟩
end Law
set_option Elab.async false
set_option linter.all false
set_option maxRecDepth 100000
set_option maxHeartbeats 4100000
/-! SqB: bounds of what is computed. -/
namespace Law
open PySem L2 Evl Sk
abbrev rSg : Rp Sg := rTup (fCons rInt (fCons rInt (fCons rInt (fCons rInt (fOne rInt)))))
abbrev rQ4 : Rp Q4 := rTup (fCons rPt (fCons rPt (fCons rPt (fOne rPt))))
abbrev rCe : Rp (Q4 × Int) := rTup (fCons rQ4 (fOne rInt))
structure PB (p : Pt) : Prop where
  x : Bd 2000 p.1
  y : Bd 2000 p.2
structure SgB (s : Sg) : Prop where
  a : Bd 1000 s.1
  b : Bd 1000 s.2.1
  c : Bd 1000 s.2.2.1
  d : Bd 1000 s.2.2.2.1
  e : Bd 1000 s.2.2.2.2
  pos : 1 ≤ s.2.2.2.2
theorem cr_bd {o a b : Pt} (ho : PB o) (ha : PB a) (hb : PB b) : Bd 4100 (crV o a b) := by
  have := ho.x
  have := ho.y
  have := ha.x
  have := ha.y
  have := hb.x
  have := hb.y
  unfold crV
  exact Bd.mono inferInstance (by decide)
theorem dt_bd {o a b : Pt} (ho : PB o) (ha : PB a) (hb : PB b) : Bd 4100 (dtV o a b) := by
  have := ho.x
  have := ho.y
  have := ha.x
  have := ha.y
  have := hb.x
  have := hb.y
  unfold dtV
  exact Bd.mono inferInstance (by decide)
theorem sg_bd (n : Int) : Bd 3 (sgV n) := by
  unfold sgV
  refine Bd.of ?_ ?_ <;> split <;> split <;> decide
theorem ps_bd {p a b : Pt} (hp : PB p) (ha : PB a) (hb : PB b) : Bd 4100 (psV p a b).2 := by
  have h := dt_bd ha hb hb
  unfold psV
  split
  · exact Bd.of (show -(2 ^ 4100) < (1 : Int) by decide) (show (1 : Int) < 2 ^ 4100 by decide)
  · split
    · exact Bd.of (show -(2 ^ 4100) < (1 : Int) by decide) (show (1 : Int) < 2 ^ 4100 by decide)
    · exact h
theorem sA_bd {x y : Sg} (hx : SgB x) (hy : SgB y) : PB (sA x y) := by
  have := hx.a
  have := hx.b
  have := hy.e
  exact ⟨Bd.mono (j := 1000 + 1000) (show Bd (1000 + 1000) (x.1 * y.2.2.2.2) from inferInstance) (by decide), Bd.mono (j := 1000 + 1000) (show Bd (1000 + 1000) (x.2.1 * y.2.2.2.2) from inferInstance) (by decide)⟩
theorem sB_bd {x y : Sg} (hx : SgB x) (hy : SgB y) : PB (sB x y) := by
  have := hx.c
  have := hx.d
  have := hy.e
  exact ⟨Bd.mono (j := 1000 + 1000) (show Bd (1000 + 1000) (x.2.2.1 * y.2.2.2.2) from inferInstance) (by decide), Bd.mono (j := 1000 + 1000) (show Bd (1000 + 1000) (x.2.2.2.1 * y.2.2.2.2) from inferInstance) (by decide)⟩
def sqL (e : Q4) : List Pt := [psV e.1 e.2.2.1 e.2.2.2, psV e.2.1 e.2.2.1 e.2.2.2, psV e.2.2.1 e.1 e.2.1, psV e.2.2.2 e.1 e.2.1]
end Law
set_option Elab.async false
set_option linter.all false
set_option maxRecDepth 100000
set_option maxHeartbeats 4100000
/-! CsA: crosses, squares, the law's own closeness, walked. -/
namespace Law
open PySem L2 Evl Sk
local macro_rules | `(tactic| walk_at "sc") => `(tactic| first | omega | assumption | trivial | (with_reducible exact mulOk) | (exact ⟨by assumption, by assumption, by assumption⟩) | (exact ⟨by assumption, by assumption, by assumption, by assumption⟩) | decide | rfl | (simp only [List.length_cons, List.length_nil]; decide))
section
variable {P : Program} {w : World} {K : PySem.W.Frag} {mg : Str → Option Value} {base : Heap}
abbrev P3 (x : Pt × Pt × Pt) : Prop := PB x.1 ∧ PB x.2.1 ∧ PB x.2.2
abbrev f3 : RpF (Pt × Pt × Pt) := fCons rPt (fCons rPt (fOne rPt))
abbrev sp_cross (K : Fg) : Sp := spF K [] f3 P3 rInt fun x => crV x.1 x.2.1 x.2.2
abbrev N_cross : List Str := ["origin", "first", "second"]
theorem sc_cross : FnScope N_cross ["origin", "first", "second"] (defScope s_cross) := ⟨rfl, rfl, rfl, by decide +kernel, rfl, by decide +kernel, by decide +kernel⟩
theorem ok_cross (N : Nm K mg) (T : Bt mg) : FnOk P w K mg base CX0 1 N.cross.f N.cross.fd ["origin", "first", "second"] (sp_cross K) := by
  refine fn_m N.cross.F sc_cross [] fun cdv A outer s G H E x Q fam hp hk => ?_
  obtain ⟨o, a, b⟩ := x
  obtain ⟨ho, ha, hb⟩ := hp
  have i1 := ho.x
  have i2 := ho.y
  have i3 := ha.x
  have i4 := ha.y
  have i5 := hb.x
  have i6 := hb.y
  show DS _ K ⟨[], _, G, H, []⟩ [some ⟨rPt, o⟩, some ⟨rPt, a⟩, some ⟨rPt, b⟩] _ (defBody s_cross) _
  refine s_ret (d_bin (d_bin (d_bin (d_ix (d_var 1 (d_int (i_tup 0 (d_ix (d_var 0 (d_int (i_tup 0 (o_sub (d_bin (d_ix (d_var 2 (d_int (i_tup 1 (d_ix (d_var 0 (d_int (i_tup 1 (o_sub (o_mul (by walk_at "sc") (d_bin (d_bin (d_ix (d_var 1 (d_int (i_tup 1 (d_ix (d_var 0 (d_int (i_tup 1 (o_sub (d_bin (d_ix (d_var 2 (d_int (i_tup 0 (d_ix (d_var 0 (d_int (i_tup 0 (o_sub (o_mul (by walk_at "sc") (o_sub (hk ⟨rfl, rfl⟩)))))))))))))))))))))))))))))))))))))))))))))))
abbrev sp_dot (K : Fg) : Sp := spF K [] f3 P3 rInt fun x => dtV x.1 x.2.1 x.2.2
abbrev N_dot : List Str := ["origin", "first", "second"]
theorem sc_dot : FnScope N_dot ["origin", "first", "second"] (defScope s_dot) := ⟨rfl, rfl, rfl, by decide +kernel, rfl, by decide +kernel, by decide +kernel⟩
theorem ok_dot (N : Nm K mg) (T : Bt mg) : FnOk P w K mg base CX0 1 N.dot.f N.dot.fd ["origin", "first", "second"] (sp_dot K) := by
  refine fn_m N.dot.F sc_dot [] fun cdv A outer s G H E x Q fam hp hk => ?_
  obtain ⟨o, a, b⟩ := x
  obtain ⟨ho, ha, hb⟩ := hp
  have i1 := ho.x
  have i2 := ho.y
  have i3 := ha.x
  have i4 := ha.y
  have i5 := hb.x
  have i6 := hb.y
  show DS _ K ⟨[], _, G, H, []⟩ [some ⟨rPt, o⟩, some ⟨rPt, a⟩, some ⟨rPt, b⟩] _ (defBody s_dot) _
  refine s_ret (d_bin (d_bin (d_bin (d_ix (d_var 1 (d_int (i_tup 0 (d_ix (d_var 0 (d_int (i_tup 0 (o_sub (d_bin (d_ix (d_var 2 (d_int (i_tup 0 (d_ix (d_var 0 (d_int (i_tup 0 (o_sub (o_mul (by walk_at "sc") (d_bin (d_bin (d_ix (d_var 1 (d_int (i_tup 1 (d_ix (d_var 0 (d_int (i_tup 1 (o_sub (d_bin (d_ix (d_var 2 (d_int (i_tup 1 (d_ix (d_var 0 (d_int (i_tup 1 (o_sub (o_mul (by walk_at "sc") (o_add (hk ⟨rfl, rfl⟩)))))))))))))))))))))))))))))))))))))))))))))))
abbrev sp_law_cross (K : Fg) : Sp := spF K [] f3 P3 rInt fun x => crV x.1 x.2.1 x.2.2
abbrev N_law_cross : List Str := ["_law_o", "_law_a", "_law_b"]
theorem sc_law_cross : FnScope N_law_cross ["_law_o", "_law_a", "_law_b"] (defScope s_law_cross) := ⟨rfl, rfl, rfl, by decide +kernel, rfl, by decide +kernel, by decide +kernel⟩
theorem ok_law_cross (N : Nm K mg) (T : Bt mg) : FnOk P w K mg base CX0 1 N.law_cross.f N.law_cross.fd ["_law_o", "_law_a", "_law_b"] (sp_law_cross K) := by
  refine fn_m N.law_cross.F sc_law_cross [] fun cdv A outer s G H E x Q fam hp hk => ?_
  obtain ⟨o, a, b⟩ := x
  obtain ⟨ho, ha, hb⟩ := hp
  have i1 := ho.x
  have i2 := ho.y
  have i3 := ha.x
  have i4 := ha.y
  have i5 := hb.x
  have i6 := hb.y
  show DS _ K ⟨[], _, G, H, []⟩ [some ⟨rPt, o⟩, some ⟨rPt, a⟩, some ⟨rPt, b⟩] _ (defBody s_law_cross) _
  refine s_ret (d_bin (d_bin (d_bin (d_ix (d_var 1 (d_int (i_tup 0 (d_ix (d_var 0 (d_int (i_tup 0 (o_sub (d_bin (d_ix (d_var 2 (d_int (i_tup 1 (d_ix (d_var 0 (d_int (i_tup 1 (o_sub (o_mul (by walk_at "sc") (d_bin (d_bin (d_ix (d_var 1 (d_int (i_tup 1 (d_ix (d_var 0 (d_int (i_tup 1 (o_sub (d_bin (d_ix (d_var 2 (d_int (i_tup 0 (d_ix (d_var 0 (d_int (i_tup 0 (o_sub (o_mul (by walk_at "sc") (o_sub (hk ⟨rfl, rfl⟩)))))))))))))))))))))))))))))))))))))))))))))))
abbrev sp_law_dot (K : Fg) : Sp := spF K [] f3 P3 rInt fun x => dtV x.1 x.2.1 x.2.2
abbrev N_law_dot : List Str := ["_law_o", "_law_a", "_law_b"]
theorem sc_law_dot : FnScope N_law_dot ["_law_o", "_law_a", "_law_b"] (defScope s_law_dot) := ⟨rfl, rfl, rfl, by decide +kernel, rfl, by decide +kernel, by decide +kernel⟩
theorem ok_law_dot (N : Nm K mg) (T : Bt mg) : FnOk P w K mg base CX0 1 N.law_dot.f N.law_dot.fd ["_law_o", "_law_a", "_law_b"] (sp_law_dot K) := by
  refine fn_m N.law_dot.F sc_law_dot [] fun cdv A outer s G H E x Q fam hp hk => ?_
  obtain ⟨o, a, b⟩ := x
  obtain ⟨ho, ha, hb⟩ := hp
  have i1 := ho.x
  have i2 := ho.y
  have i3 := ha.x
  have i4 := ha.y
  have i5 := hb.x
  have i6 := hb.y
  show DS _ K ⟨[], _, G, H, []⟩ [some ⟨rPt, o⟩, some ⟨rPt, a⟩, some ⟨rPt, b⟩] _ (defBody s_law_dot) _
  refine s_ret (d_bin (d_bin (d_bin (d_ix (d_var 1 (d_int (i_tup 0 (d_ix (d_var 0 (d_int (i_tup 0 (o_sub (d_bin (d_ix (d_var 2 (d_int (i_tup 0 (d_ix (d_var 0 (d_int (i_tup 0 (o_sub (o_mul (by walk_at "sc") (d_bin (d_bin (d_ix (d_var 1 (d_int (i_tup 1 (d_ix (d_var 0 (d_int (i_tup 1 (o_sub (d_bin (d_ix (d_var 2 (d_int (i_tup 1 (d_ix (d_var 0 (d_int (i_tup 1 (o_sub (o_mul (by walk_at "sc") (o_add (hk ⟨rfl, rfl⟩)))))))))))))))))))))))))))))))))))))))))))))))
abbrev sp_sign (K : Fg) : Sp := spF K [] (fOne rInt) (fun _ => True) rInt sgV
abbrev N_sign : List Str := ["number"]
theorem sc_sign : FnScope N_sign ["number"] (defScope s_sign) := ⟨rfl, rfl, rfl, by decide +kernel, rfl, by decide +kernel, by decide +kernel⟩
theorem ok_sign (N : Nm K mg) (T : Bt mg) : FnOk P w K mg base CX0 1 N.sign.f N.sign.fd ["number"] (sp_sign K) := by
  refine fn_m N.sign.F sc_sign [] fun cdv A outer s G H E x Q fam hp hk => ?_
  show DS _ K ⟨[], _, G, H, []⟩ [some ⟨rInt, x⟩] _ (defBody s_sign) _
  refine s_ret (d_bin (d_callT T.int bt_int (da_one (d_cmp (d_var 0 (d_int (o_gt (c_intB (d_callT T.int bt_int (da_one (d_cmp (d_var 0 (d_int (o_lt (c_intB (o_sub ?_))))))))))))))))
  exact hk ⟨rfl, by unfold sgV; simp⟩
abbrev sp_point_square (K : Fg) : Sp := spF K [] f3 P3 rPt fun x => psV x.1 x.2.1 x.2.2
abbrev N_point_square : List Str := ["point", "start", "end", "long", "along", "area"]
theorem sc_point_square : FnScope N_point_square ["point", "start", "end"] (defScope s_point_square) := ⟨rfl, rfl, rfl, by decide +kernel, rfl, by decide +kernel, by decide +kernel⟩
theorem ok_point_square (N : Nm K mg) (T : Bt mg) : FnOk P w K mg base CX0 2 N.point_square.f N.point_square.fd ["point", "start", "end"] (sp_point_square K) := by
  refine fn_m N.point_square.F sc_point_square [] fun cdv A outer s G H E x Q fam hp hk => ?_
  obtain ⟨p, s1, e1⟩ := x
  obtain ⟨ho, ha, hb⟩ := hp
  have j1 := cr_bd ha hb ho
  show DS _ K ⟨[], _, G, H, []⟩ [some ⟨rPt, p⟩, some ⟨rPt, s1⟩, some ⟨rPt, e1⟩, none, none, none] _ (defBody s_point_square) _
  refine s_set 3 (d_call N.dot (ok_dot N T) (da_cons (d_var 1 (da_cons (d_var 2 (da_one (d_var 2 (sw_f (by walk_at "sc") ?_))))))))
  refine s_set 4 (d_call N.dot (ok_dot N T) (da_cons (d_var 1 (da_cons (d_var 2 (da_one (d_var 0 (sw_f (by walk_at "sc") ?_))))))))
  refine s_ifP (dt_cmp (d_var 4 (d_int (o_le ⟨rfl, rfl⟩)))) (fun h1 => ?_) (fun h1 => ?_)
  · refine s_ret (d_tup (da_cons (d_call N.dot (ok_dot N T) (da_cons (d_var 0 (da_cons (d_var 1 (da_one (d_var 1 (sw_f (by walk_at "sc") (da_one (d_int ?_))))))))))))
    exact hk ⟨rfl, by unfold psV; dsimp only; rw [if_pos (of_decide_eq_true h1)]⟩
  · refine s_out ?_
    refine s_ifP (dt_cmp (d_var 4 (d_var 3 (o_ge ⟨rfl, rfl⟩)))) (fun h2 => ?_) (fun h2 => ?_)
    · refine s_ret (d_tup (da_cons (d_call N.dot (ok_dot N T) (da_cons (d_var 0 (da_cons (d_var 2 (da_one (d_var 2 (sw_f (by walk_at "sc") (da_one (d_int ?_))))))))))))
      exact hk ⟨rfl, by unfold psV; dsimp only; rw [if_neg (of_decide_eq_false h1), if_pos (of_decide_eq_true h2)]⟩
    · refine s_out ?_
      refine s_set 5 (d_call N.cross (ok_cross N T) (da_cons (d_var 1 (da_cons (d_var 2 (da_one (d_var 0 (sw_f (by walk_at "sc") ?_))))))))
      refine s_ret (d_tup (da_cons (d_bin (d_var 5 (d_var 5 (o_mul (by walk_at "sc") (da_one (d_var 3 ?_))))))))
      exact hk ⟨rfl, by unfold psV; dsimp only; rw [if_neg (of_decide_eq_false h1), if_neg (of_decide_eq_false h2)]⟩
abbrev sp_crosses (K : Fg) : Sp := spF K [] (fCons rPt (fCons rPt (fCons rPt (fOne rPt)))) (fun x => PB x.1 ∧ PB x.2.1 ∧ PB x.2.2.1 ∧ PB x.2.2.2) rBool fun x => csV x.1 x.2.1 x.2.2.1 x.2.2.2
abbrev N_crosses : List Str := ["start", "end", "other_start", "other_end", "first", "second"]
theorem sc_crosses : FnScope N_crosses ["start", "end", "other_start", "other_end"] (defScope s_crosses) := ⟨rfl, rfl, rfl, by decide +kernel, rfl, by decide +kernel, by decide +kernel⟩
theorem ok_crosses (N : Nm K mg) (T : Bt mg) : FnOk P w K mg base CX0 2 N.crosses.f N.crosses.fd ["start", "end", "other_start", "other_end"] (sp_crosses K) := by
  refine fn_m N.crosses.F sc_crosses [] fun cdv A outer s G H E x Q fam hp hk => ?_
  obtain ⟨s1, e1, o, t⟩ := x
  obtain ⟨hs, he, ho, ht⟩ := hp
  have j1 := fun n => sg_bd n
  show DS _ K ⟨[], _, G, H, []⟩ [some ⟨rPt, s1⟩, some ⟨rPt, e1⟩, some ⟨rPt, o⟩, some ⟨rPt, t⟩, none, none] _ (defBody s_crosses) _
  refine s_set 4 (d_bin (d_call N.sign (ok_sign N T) (da_one (d_call N.cross (ok_cross N T) (da_cons (d_var 0 (da_cons (d_var 1 (da_one (d_var 2 (sw_f (by walk_at "sc") (sw_f (by walk_at "sc") (d_call N.sign (ok_sign N T) (da_one (d_call N.cross (ok_cross N T) (da_cons (d_var 0 (da_cons (d_var 1 (da_one (d_var 3 (sw_f (by walk_at "sc") (sw_f (by walk_at "sc") (o_mul (by walk_at "sc") ?_))))))))))))))))))))))))
  refine s_set 5 (d_bin (d_call N.sign (ok_sign N T) (da_one (d_call N.cross (ok_cross N T) (da_cons (d_var 2 (da_cons (d_var 3 (da_one (d_var 0 (sw_f (by walk_at "sc") (sw_f (by walk_at "sc") (d_call N.sign (ok_sign N T) (da_one (d_call N.cross (ok_cross N T) (da_cons (d_var 2 (da_cons (d_var 3 (da_one (d_var 1 (sw_f (by walk_at "sc") (sw_f (by walk_at "sc") (o_mul (by walk_at "sc") ?_))))))))))))))))))))))))
  refine s_ret (d_then (d_andP (d_cmp (d_var 4 (d_int (o_lt ⟨rfl, rfl⟩)))) (fun hb => (d_one (d_cmp (d_var 5 (d_int (o_lt ⟨rfl, rfl⟩))))))) ?_)
  exact hk ⟨rfl, rfl⟩
abbrev sp_squares (K : Fg) : Sp := spF K [] (fOne rQ4) (fun x => PB x.1 ∧ PB x.2.1 ∧ PB x.2.2.1 ∧ PB x.2.2.2) (rTpv rPt) sqL
abbrev N_squares : List Str := ["ends", "start", "end", "other_start", "other_end"]
theorem sc_squares : FnScope N_squares ["ends"] (defScope s_squares) := ⟨rfl, rfl, rfl, by decide +kernel, rfl, by decide +kernel, by decide +kernel⟩
theorem ok_squares (N : Nm K mg) (T : Bt mg) : FnOk P w K mg base CX0 3 N.squares.f N.squares.fd ["ends"] (sp_squares K) := by
  refine fn_m N.squares.F sc_squares [] fun cdv A outer s G H E x Q fam hp hk => ?_
  obtain ⟨a, b, p, q⟩ := x
  obtain ⟨ha, hb, hp, hq⟩ := hp
  show DS _ K ⟨[], _, G, H, []⟩ [some ⟨rQ4, (a, b, p, q)⟩, none, none, none, none] _ (defBody s_squares) _
  refine s_asg (d_var 0 (g_tup (gs_cons (g_name 1 (gs_cons (g_name 2 (gs_cons (g_name 3 (gs_one (g_name 4 ?_))))))))))
  refine s_ret (d_tpv (da_all (d_call N.point_square (ok_point_square N T) (da_cons (d_var 1 (da_cons (d_var 3 (da_one (d_var 4 (sw_f (by walk_at "sc") (da_all (d_call N.point_square (ok_point_square N T) (da_cons (d_var 2 (da_cons (d_var 3 (da_one (d_var 4 (sw_f (by walk_at "sc") (da_all (d_call N.point_square (ok_point_square N T) (da_cons (d_var 3 (da_cons (d_var 1 (da_one (d_var 2 (sw_f (by walk_at "sc") (da_all (d_call N.point_square (ok_point_square N T) (da_cons (d_var 4 (da_cons (d_var 1 (da_one (d_var 2 (sw_f (by walk_at "sc") (da_all0 ⟨(by walk_at "sc"), ?_⟩))))))))))))))))))))))))))))))))))))))
  exact hk ⟨rfl, rfl⟩
abbrev sp_common (K : Fg) : Sp := spF K [] (fCons rSg (fOne rSg)) (fun x => SgB x.1 ∧ SgB x.2) rCe fun x => (enV x.1 x.2, x.1.2.2.2.2 * x.2.2.2.2.2)
abbrev N_common : List Str := ["first", "second", "ends", "ax", "ay", "bx", "by", "d", "cx", "cy", "ex", "ey", "e"]
theorem sc_common : FnScope N_common ["first", "second"] (defScope s_common) := ⟨rfl, rfl, rfl, by decide +kernel, rfl, by decide +kernel, by decide +kernel⟩
theorem ok_common (N : Nm K mg) (T : Bt mg) : FnOk P w K mg base CX0 1 N.common.f N.common.fd ["first", "second"] (sp_common K) := by
  refine fn_m N.common.F sc_common [] fun cdv A outer s G H E x Q fam hp hk => ?_
  obtain ⟨⟨ax, ay, bx, by_, d⟩, ⟨cx, cy, ex, ey, e⟩⟩ := x
  obtain ⟨hx, hy⟩ := hp
  have i1 : Bd 1000 ax := hx.a
  have i2 : Bd 1000 ay := hx.b
  have i3 : Bd 1000 bx := hx.c
  have i4 : Bd 1000 by_ := hx.d
  have i5 : Bd 1000 d := hx.e
  have i6 : Bd 1000 cx := hy.a
  have i7 : Bd 1000 cy := hy.b
  have i8 : Bd 1000 ex := hy.c
  have i9 : Bd 1000 ey := hy.d
  have i10 : Bd 1000 e := hy.e
  show DS _ K ⟨[], _, G, H, []⟩ [some ⟨rSg, (ax, ay, bx, by_, d)⟩, some ⟨rSg, (cx, cy, ex, ey, e)⟩, none, none, none, none, none, none, none, none, none, none, none] _ (defBody s_common) _
  refine s_asg (d_var 0 (g_tup (gs_cons (g_name 3 (gs_cons (g_name 4 (gs_cons (g_name 5 (gs_cons (g_name 6 (gs_one (g_name 7 ?_))))))))))))
  refine s_asg (d_var 1 (g_tup (gs_cons (g_name 8 (gs_cons (g_name 9 (gs_cons (g_name 10 (gs_cons (g_name 11 (gs_one (g_name 12 ?_))))))))))))
  refine s_set 2 (d_tup (da_cons (d_tup (da_cons (d_bin (d_var 3 (d_var 12 (o_mul (by walk_at "sc") (da_one (d_bin (d_var 4 (d_var 12 (o_mul (by walk_at "sc") (da_cons (d_tup (da_cons (d_bin (d_var 5 (d_var 12 (o_mul (by walk_at "sc") (da_one (d_bin (d_var 6 (d_var 12 (o_mul (by walk_at "sc") (da_cons (d_tup (da_cons (d_bin (d_var 8 (d_var 7 (o_mul (by walk_at "sc") (da_one (d_bin (d_var 9 (d_var 7 (o_mul (by walk_at "sc") (da_one (d_tup (da_cons (d_bin (d_var 10 (d_var 7 (o_mul (by walk_at "sc") (da_one (d_bin (d_var 11 (d_var 7 (o_mul (by walk_at "sc") ?_)))))))))))))))))))))))))))))))))))))))))))))))))
  refine s_ret (d_tup (da_cons (d_var 2 (da_one (d_bin (d_var 7 (d_var 12 (o_mul (by walk_at "sc") (hk ⟨rfl, rfl⟩)))))))))
abbrev sp_point_closer (K : Fg) : Sp := spF K [] (fCons rPt (fCons rPt (fCons rPt (fOne rInt)))) (fun x => PB x.1 ∧ PB x.2.1 ∧ PB x.2.2.1 ∧ Bd 6000 x.2.2.2) rBool fun x => pcV x.1 x.2.1 x.2.2.1 x.2.2.2
abbrev N_point_closer : List Str := ["_law_p", "_law_a", "_law_b", "_law_square", "_law_long", "_law_along", "_law_area"]
theorem sc_point_closer : FnScope N_point_closer ["_law_p", "_law_a", "_law_b", "_law_square"] (defScope s_point_closer) := ⟨rfl, rfl, rfl, by decide +kernel, rfl, by decide +kernel, by decide +kernel⟩
theorem ok_point_closer (N : Nm K mg) (T : Bt mg) : FnOk P w K mg base CX0 2 N.point_closer.f N.point_closer.fd ["_law_p", "_law_a", "_law_b", "_law_square"] (sp_point_closer K) := by
  refine fn_m N.point_closer.F sc_point_closer [] fun cdv A outer s G H E x Q fam hp hk => ?_
  obtain ⟨p, a, b, q⟩ := x
  obtain ⟨hp, ha, hb, hq⟩ := hp
  have j1 := cr_bd ha hb hp
  have j2 := dt_bd ha hb hb
  show DS _ K ⟨[], _, G, H, []⟩ [some ⟨rPt, p⟩, some ⟨rPt, a⟩, some ⟨rPt, b⟩, some ⟨rInt, q⟩, none, none, none] _ (defBody s_point_closer) _
  refine s_set 4 (d_call N.law_dot (ok_law_dot N T) (da_cons (d_var 1 (da_cons (d_var 2 (da_one (d_var 2 (sw_f (by walk_at "sc") ?_))))))))
  refine s_set 5 (d_call N.law_dot (ok_law_dot N T) (da_cons (d_var 1 (da_cons (d_var 2 (da_one (d_var 0 (sw_f (by walk_at "sc") ?_))))))))
  refine s_ifP (dt_cmp (d_var 5 (d_int (o_le ⟨rfl, rfl⟩)))) (fun h1 => ?_) (fun h1 => ?_)
  · refine s_ret (d_cmp (d_call N.law_dot (ok_law_dot N T) (da_cons (d_var 1 (da_cons (d_var 0 (da_one (d_var 0 (sw_f (by walk_at "sc") (d_var 3 (o_lt ?_)))))))))))
    exact hk ⟨rfl, by unfold pcV; dsimp only; rw [if_pos (of_decide_eq_true h1)]⟩
  · refine s_out ?_
    refine s_ifP (dt_cmp (d_var 5 (d_var 4 (o_ge ⟨rfl, rfl⟩)))) (fun h2 => ?_) (fun h2 => ?_)
    · refine s_ret (d_cmp (d_call N.law_dot (ok_law_dot N T) (da_cons (d_var 2 (da_cons (d_var 0 (da_one (d_var 0 (sw_f (by walk_at "sc") (d_var 3 (o_lt ?_)))))))))))
      exact hk ⟨rfl, by unfold pcV; dsimp only; rw [if_neg (of_decide_eq_false h1), if_pos (of_decide_eq_true h2)]⟩
    · refine s_out ?_
      refine s_set 6 (d_call N.law_cross (ok_law_cross N T) (da_cons (d_var 1 (da_cons (d_var 2 (da_one (d_var 0 (sw_f (by walk_at "sc") ?_))))))))
      refine s_ret (d_cmp (d_bin (d_var 6 (d_var 6 (o_mul (by walk_at "sc") (d_bin (d_var 3 (d_var 4 (o_mul (by walk_at "sc") (o_lt ?_))))))))))
      exact hk ⟨rfl, by unfold pcV; dsimp only; rw [if_neg (of_decide_eq_false h1), if_neg (of_decide_eq_false h2)]⟩
abbrev sp_closer (K : Fg) : Sp := spF K [] (fCons rSg (fCons rSg (fOne rInt))) (fun x => SgB x.1 ∧ SgB x.2.1 ∧ Bd 1000 x.2.2) rBool fun x => lcV x.1 x.2.1 x.2.2
abbrev N_closer : List Str := ["_law_first", "_law_second", "_law_limit", "_law_d", "_law_e", "_law_a", "_law_b", "_law_p", "_law_q", "_law_square", "_law_sides"]
theorem sc_closer : FnScope N_closer ["_law_first", "_law_second", "_law_limit"] (defScope s_closer) := ⟨rfl, rfl, rfl, by decide +kernel, rfl, by decide +kernel, by decide +kernel⟩
theorem ok_closer (N : Nm K mg) (T : Bt mg) : FnOk P w K mg base CX0 3 N.closer.f N.closer.fd ["_law_first", "_law_second", "_law_limit"] (sp_closer K) := by
  refine fn_m N.closer.F sc_closer [] fun cdv A outer s G H E x Q fam hp hk => ?_
  obtain ⟨⟨ax, ay, bx, by_, d⟩, ⟨cx, cy, ex, ey, e⟩, l⟩ := x
  obtain ⟨hx, hy, hl⟩ := hp
  have i1 : Bd 1000 ax := hx.a
  have i2 : Bd 1000 ay := hx.b
  have i3 : Bd 1000 bx := hx.c
  have i4 : Bd 1000 by_ := hx.d
  have i5 : Bd 1000 d := hx.e
  have i6 : Bd 1000 cx := hy.a
  have i7 : Bd 1000 cy := hy.b
  have i8 : Bd 1000 ex := hy.c
  have i9 : Bd 1000 ey := hy.d
  have i10 : Bd 1000 e := hy.e
  have i11 : Bd 1000 l := hl
  have hA : PB (ax * e, ay * e) := sA_bd hx hy
  have hB : PB (bx * e, by_ * e) := sB_bd hx hy
  have hP : PB (cx * d, cy * d) := sA_bd hy hx
  have hQ : PB (ex * d, ey * d) := sB_bd hy hx
  have hS : Bd 6000 (l * l * d * d * e * e) := Bd.mono (j := 1000 + 1000 + 1000 + 1000 + 1000 + 1000) inferInstance (by decide)
  have k1 := cr_bd hA hB hP
  have k2 := cr_bd hA hB hQ
  have k3 := cr_bd hP hQ hA
  have k4 := cr_bd hP hQ hB
  show DS _ K ⟨[], _, G, H, []⟩ [some ⟨rSg, (ax, ay, bx, by_, d)⟩, some ⟨rSg, (cx, cy, ex, ey, e)⟩, some ⟨rInt, l⟩, none, none, none, none, none, none, none, none] _ (defBody s_closer) _
  refine s_set 3 (d_ix (d_var 0 (d_int (i_tup 4 ?_))))
  refine s_set 4 (d_ix (d_var 1 (d_int (i_tup 4 ?_))))
  refine s_set 5 (d_tup (da_cons (d_bin (d_ix (d_var 0 (d_int (i_tup 0 (d_var 4 (o_mul (by walk_at "sc") (da_one (d_bin (d_ix (d_var 0 (d_int (i_tup 1 (d_var 4 (o_mul (by walk_at "sc") ?_)))))))))))))))))
  refine s_set 6 (d_tup (da_cons (d_bin (d_ix (d_var 0 (d_int (i_tup 2 (d_var 4 (o_mul (by walk_at "sc") (da_one (d_bin (d_ix (d_var 0 (d_int (i_tup 3 (d_var 4 (o_mul (by walk_at "sc") ?_)))))))))))))))))
  refine s_set 7 (d_tup (da_cons (d_bin (d_ix (d_var 1 (d_int (i_tup 0 (d_var 3 (o_mul (by walk_at "sc") (da_one (d_bin (d_ix (d_var 1 (d_int (i_tup 1 (d_var 3 (o_mul (by walk_at "sc") ?_)))))))))))))))))
  refine s_set 8 (d_tup (da_cons (d_bin (d_ix (d_var 1 (d_int (i_tup 2 (d_var 3 (o_mul (by walk_at "sc") (da_one (d_bin (d_ix (d_var 1 (d_int (i_tup 3 (d_var 3 (o_mul (by walk_at "sc") ?_)))))))))))))))))
  refine s_set 9 (d_bin (d_bin (d_bin (d_bin (d_bin (d_var 2 (d_var 2 (o_mul (by walk_at "sc") (d_var 3 (o_mul (by walk_at "sc") (d_var 3 (o_mul (by walk_at "sc") (d_var 4 (o_mul (by walk_at "sc") (d_var 4 (o_mul (by walk_at "sc") ?_))))))))))))))))
  have eV : lcV (ax, ay, bx, by_, d) (cx, cy, ex, ey, e) l = ((decide (0 < l * l * d * d * e * e) && crB (ax * e, ay * e) (bx * e, by_ * e) (cx * d, cy * d) (ex * d, ey * d)) || ((pcV (ax * e, ay * e) (cx * d, cy * d) (ex * d, ey * d) (l * l * d * d * e * e) || pcV (bx * e, by_ * e) (cx * d, cy * d) (ex * d, ey * d) (l * l * d * d * e * e)) || (pcV (cx * d, cy * d) (ax * e, ay * e) (bx * e, by_ * e) (l * l * d * d * e * e) || pcV (ex * d, ey * d) (ax * e, ay * e) (bx * e, by_ * e) (l * l * d * d * e * e)))) := rfl
  have fin : ∀ z : Option Slot, (decide (0 < l * l * d * d * e * e) && crB (ax * e, ay * e) (bx * e, by_ * e) (cx * d, cy * d) (ex * d, ey * d)) = false → DS (Xf P w K mg base N_closer "_law_closer" s_closer N.closer.f cdv A outer s H E) K ⟨[], [], G, H, []⟩ [some ⟨rSg, (ax, ay, bx, by_, d)⟩, some ⟨rSg, (cx, cy, ex, ey, e)⟩, some ⟨rInt, l⟩, some ⟨rInt, d⟩, some ⟨rInt, e⟩, some ⟨rPt, (ax * e, ay * e)⟩, some ⟨rPt, (bx * e, by_ * e)⟩, some ⟨rPt, (cx * d, cy * d)⟩, some ⟨rPt, (ex * d, ey * d)⟩, some ⟨rInt, l * l * d * d * e * e⟩, z] [] ((defBody s_closer).drop 8) { nx := fun _ H' => Q .non H', rt := Q } := by
    intro z h0
    refine s_ifP (dt_bool (dp_orP (dt_val (d_call N.point_closer (ok_point_closer N T) (da_cons (d_var 5 (da_cons (d_var 7 (da_cons (d_var 8 (da_one (d_var 9 (sw_f (by walk_at "sc") ⟨rfl, rfl⟩))))))))))) (fun hb => (dp_or1 (dt_val (d_call N.point_closer (ok_point_closer N T) (da_cons (d_var 6 (da_cons (d_var 7 (da_cons (d_var 8 (da_one (d_var 9 (sw_f (by walk_at "sc") ⟨rfl, rfl⟩))))))))))))))) (fun h1 => ?_) (fun h1 => ?_)
    · refine s_ret (d_bl (hk ⟨rfl, ?_⟩))
      dsimp only at h1 ⊢
      rw [eV, h0, h1]
      simp
    · refine s_out ?_
      refine s_ret (d_then (d_orP (d_call N.point_closer (ok_point_closer N T) (da_cons (d_var 7 (da_cons (d_var 5 (da_cons (d_var 6 (da_one (d_var 9 (sw_f (by walk_at "sc") ⟨rfl, rfl⟩)))))))))) (fun hb => (d_one (d_call N.point_closer (ok_point_closer N T) (da_cons (d_var 8 (da_cons (d_var 5 (da_cons (d_var 6 (da_one (d_var 9 (sw_f (by walk_at "sc") ⟨rfl, rfl⟩))))))))))))) (hk ⟨rfl, ?_⟩))
      dsimp only at h1 ⊢
      rw [eV, h0, h1]
      rfl
  refine s_ifP (dt_cmp (d_var 9 (d_int (o_gt ⟨rfl, rfl⟩)))) (fun h1 => ?_) (fun h1 => ?_)
  · refine s_set 10 (d_lst (da_all (d_call N.law_cross (ok_law_cross N T) (da_cons (d_var 5 (da_cons (d_var 6 (da_one (d_var 7 (sw_f (by walk_at "sc") (da_all (d_call N.law_cross (ok_law_cross N T) (da_cons (d_var 5 (da_cons (d_var 6 (da_one (d_var 8 (sw_f (by walk_at "sc") (da_all (d_call N.law_cross (ok_law_cross N T) (da_cons (d_var 7 (da_cons (d_var 8 (da_one (d_var 5 (sw_f (by walk_at "sc") (da_all (d_call N.law_cross (ok_law_cross N T) (da_cons (d_var 7 (da_cons (d_var 8 (da_one (d_var 6 (sw_f (by walk_at "sc") (da_all0 ⟨(by walk_at "sc"), ?_⟩))))))))))))))))))))))))))))))))))))))
    refine s_ifP (dt_bool (dp_andP (dt_cmp (d_bin (d_ix (d_var 10 (d_int (i_lst (by walk_at "sc") (d_ix (d_var 10 (d_int (i_lst (by walk_at "sc") (o_mul (by walk_at "sc") (d_int (o_lt ⟨rfl, rfl⟩))))))))))))) (fun hb => (dp_and1 (dt_cmp (d_bin (d_ix (d_var 10 (d_int (i_lst (by walk_at "sc") (d_ix (d_var 10 (d_int (i_lst (by walk_at "sc") (o_mul (by walk_at "sc") (d_int (o_lt ⟨rfl, rfl⟩))))))))))))))))) (fun h2 => ?_) (fun h2 => ?_)
    · refine s_ret (d_bl (hk ⟨rfl, ?_⟩))
      dsimp only at h1 h2 ⊢
      rw [eV, h1, show crB (ax * e, ay * e) (bx * e, by_ * e) (cx * d, cy * d) (ex * d, ey * d) = true from h2]
      simp
    · exact s_out (s_out (fin _ (by rw [h1, show crB (ax * e, ay * e) (bx * e, by_ * e) (cx * d, cy * d) (ex * d, ey * d) = false from h2] <;> rfl)))
  · exact s_out (fin _ (by rw [h1] <;> rfl))
end
end Law
set_option Elab.async false
set_option linter.all false
set_option maxRecDepth 100000
set_option maxHeartbeats 4100000
/-! CsB: closer, lines_closer. -/
namespace Law
open PySem L2 Evl Sk
local macro_rules | `(tactic| walk_at "sc") => `(tactic| first | omega | assumption | trivial | (with_reducible exact mulOk) | (exact ⟨by assumption, by assumption, by assumption⟩) | (exact ⟨by assumption, by assumption, by assumption, by assumption⟩) | (exact ⟨by assumption, by assumption⟩) | decide | rfl | (simp only [List.length_cons, List.length_nil]; decide))
section
variable {P : Program} {w : World} {K : PySem.W.Frag} {mg : Str → Option Value} {base : Heap}
theorem sqL_bd {e : Q4} (h1 : PB e.1) (h2 : PB e.2.1) (h3 : PB e.2.2.1) (h4 : PB e.2.2.2) : ∀ z ∈ sqL e, Bd 4100 z.2 := by
  intro z hz
  simp only [sqL, List.mem_cons, List.not_mem_nil, or_false] at hz
  rcases hz with e | e | e | e <;> rw [e] <;> apply ps_bd <;> assumption
end
end Law
set_option Elab.async false
set_option linter.all false
set_option maxRecDepth 100000
set_option maxHeartbeats 4100000
/-! SpA: pieces as segments; separated boxes. -/
namespace Law
open PySem L2 Evl Sk MP M10
local macro_rules | `(tactic| walk_at "sc") => `(tactic| first | omega | assumption | trivial | (with_reducible exact mulOk) | (with_reducible exact smOk) | (with_reducible exact ⟨by decide, smOk⟩) | decide | rfl | (simp only [List.length_cons, List.length_nil]; decide))
def toSg : List Int → Sg
  | [a, b, c, d, e] => (a, b, c, d, e)
  | _ => (0, 0, 0, 0, 1)
def pcs (fx : Fx) (r : List Str) (lo hi : Int) : List Sg := (piece fx r lo hi).map toSg
theorem rSg_of {K : PySem.W.Frag} {G : Hp} {v : V} {l : List Int} (h5 : l.length = 5) (h : (rTpv rInt).rep K G v l) : rSg.rep K G v (toSg l) := by
  obtain ⟨a, vs, h1, h2, h3⟩ := h
  match l, vs, h5, h3 with
  | [a1, a2, a3, a4, a5], [v1, v2, v3, v4, v5], _, ⟨q1, q2, q3, q4, q5, _⟩ => exact ⟨a, _, h1, h2, v1, _, rfl, q1, v2, _, rfl, q2, v3, _, rfl, q3, v4, _, rfl, q4, v5, rfl, q5⟩
theorem all2_sg {K : PySem.W.Frag} {G : Hp} : ∀ {vs : List V} {ls : List (List Int)}, (∀ l ∈ ls, l.length = 5) → All2 ((rTpv rInt).rep K G) vs ls → All2 (rSg.rep K G) vs (ls.map toSg)
  | [], [], _, _ => trivial
  | _ :: _, l :: ls, h, ⟨a, b⟩ => ⟨rSg_of (h l List.mem_cons_self) a, all2_sg (fun x hx => h x (List.mem_cons_of_mem _ hx)) b⟩
  | [], _ :: _, _, z => z.elim
  | _ :: _, [], _, z => z.elim
theorem rSgs_of {K : PySem.W.Frag} {G : Hp} {v : V} {ls : List (List Int)} (h5 : ∀ l ∈ ls, l.length = 5) (h : (rLst (rTpv rInt)).rep K G v ls) : (rLst rSg).rep K G v (ls.map toSg) := by
  obtain ⟨a, vs, h1, h2, h3⟩ := h
  exact ⟨a, vs, h1, h2, all2_sg h5 h3⟩
theorem onL_sb {ch : ChV} {r : List Str} (hc : ChOk ch) (rt : RtV ch r) {k : Nat} (hk : k + 1 < r.length) {p : Int} (h0 : 0 ≤ p) (h1 : p ≤ 10000000000) :
    Bd 1000 (onL (fxOf ch) r k p).1 ∧ Bd 1000 (onL (fxOf ch) r k p).2.1 ∧ Bd 1000 (onL (fxOf ch) r k p).2.2 ∧ 1 ≤ (onL (fxOf ch) r k p).2.2 := by
  have p1 := rt.ptOk (show k < r.length by omega)
  have p2 := rt.ptOk hk
  obtain ⟨a1, a2, a3, a4⟩ := p1
  obtain ⟨b1, b2, b3, b4⟩ := p2
  have l1 := rt.lnLe hk
  have l2 := rt.bgLe (show k < r.length by omega)
  have l3 := bg_nn (fxOf ch) r k
  have l4 := bg_lt (rt.strict hc) hk
  have i1 : Bd 40 (pt (fxOf ch) (at_ r k)).1 := Bd.of (by omega) (by omega)
  have i2 : Bd 40 (pt (fxOf ch) (at_ r k)).2 := Bd.of (by omega) (by omega)
  have i3 : Bd 40 ((pt (fxOf ch) (at_ r (k + 1))).1 - (pt (fxOf ch) (at_ r k)).1) := Bd.of (by omega) (by omega)
  have i4 : Bd 40 ((pt (fxOf ch) (at_ r (k + 1))).2 - (pt (fxOf ch) (at_ r k)).2) := Bd.of (by omega) (by omega)
  have i5 : Bd 40 (bg (fxOf ch) r (k + 1) - bg (fxOf ch) r k) := Bd.of (by omega) (by omega)
  have i6 : Bd 40 (p - bg (fxOf ch) r k) := Bd.of (by omega) (by omega)
  unfold onL vec
  exact ⟨Bd.mono (show Bd (max (40 + 40) (40 + 40) + 1) _ from inferInstance) (by decide), Bd.mono (show Bd (max (40 + 40) (40 + 40) + 1) _ from inferInstance) (by decide), Bd.mono i5 (by decide), by dsimp only; omega⟩
theorem mx_rng {lo t : Int} (h : lo < t) (ht : 0 ≤ t) : 0 ≤ mx lo 0 ∧ mx lo 0 ≤ t := by
  unfold mx
  split <;> omega
theorem mn_le (a b : Int) : mn a b ≤ b := by
  unfold mn
  split <;> omega
theorem pc_ok {ch : ChV} {r : List Str} (hc : ChOk ch) (rt : RtV ch r) (lo hi : Int) : ∀ l ∈ piece (fxOf ch) r lo hi, l.length = 5 ∧ SgB (toSg l) := by
  have h2 := rt.two
  have ht := rt.totLe
  have ht0 : 0 ≤ tot (fxOf ch) r := bg_nn _ _ _
  intro l hl
  unfold piece at hl
  split at hl
  · cases hl
  · rename_i hz
    simp only [Bool.or_eq_true, decide_eq_true_eq, not_or] at hz
    have hlo := mx_rng (show lo < tot (fxOf ch) r by omega) ht0
    split at hl
    · rw [List.mem_singleton] at hl
      obtain ⟨a, b, c, d⟩ := onL_sb hc rt (la_lt (fx := fxOf ch) h2 (mx lo 0)) hlo.1 (Int.le_trans hlo.2 ht)
      subst hl
      exact ⟨rfl, ⟨a, b, a, b, c, d⟩⟩
    · obtain ⟨k, hk, hs⟩ := List.mem_flatMap.mp hl
      have hk := List.mem_range.mp hk
      unfold seg at hs
      split at hs
      · rename_i hq
        have hq := of_decide_eq_true hq
        rw [List.mem_singleton] at hs
        have e1 : 0 ≤ mx (mx lo 0) (bg (fxOf ch) r k) ∧ mx (mx lo 0) (bg (fxOf ch) r k) ≤ 10000000000 := by
          have := rt.bgLe (show k < r.length by omega)
          have := bg_nn (fxOf ch) r k
          constructor <;> (generalize mx lo 0 = z at *; unfold mx; split <;> omega)
        have e2 : mn (mn hi (tot (fxOf ch) r)) (bg (fxOf ch) r (k + 1)) ≤ 10000000000 := Int.le_trans (mn_le _ _) (rt.bgLe (by omega))
        obtain ⟨a, b, c, d⟩ := onL_sb hc rt (show k + 1 < r.length by omega) e1.1 e1.2
        obtain ⟨a', b', _, _⟩ := onL_sb hc rt (show k + 1 < r.length by omega) (p := mn (mn hi (tot (fxOf ch) r)) (bg (fxOf ch) r (k + 1))) (by omega) e2
        subst hs
        exact ⟨rfl, ⟨a, b, a', b', c, d⟩⟩
      · cases hs
theorem pcs_ok {ch : ChV} {r : List Str} (hc : ChOk ch) (rt : RtV ch r) (lo hi : Int) : ∀ s ∈ pcs (fxOf ch) r lo hi, SgB s := by
  intro s hs
  obtain ⟨l, hl, e⟩ := List.mem_map.mp hs
  rw [← e]
  exact (pc_ok hc rt lo hi l hl).2
def abV (ru : RuV) (b c : B4) : Bool := decide ((if c.2.2.1 - b.2.2.2 > b.2.2.1 - c.2.2.2 then c.2.2.1 - b.2.2.2 else b.2.2.1 - c.2.2.2) ≥ verticalOf ru + 2 * bandOf ru)
theorem abV_comm (ru : RuV) (b c : B4) : abV ru c b = abV ru b c := by
  unfold abV
  refine decide_eq_decide.mpr ?_
  split <;> split <;> omega
def lmV (ru : RuV) : Int := lateralOf ru + 2 * radiusOf ru
def spV (ru : RuV) (b : B4) (ps : List Sg) (c : B4) (qs : List Sg) : Bool := abV ru b c || !(ps.any fun x => qs.any fun y => lcV x y (lmV ru))
theorem any_ext {α : Type} {xs : List α} {f g : α → Bool} (h : ∀ x ∈ xs, f x = g x) : xs.any f = xs.any g := by
  induction xs with
  | nil => rfl
  | cons x xs ih => rw [List.any_cons, List.any_cons, h x List.mem_cons_self, ih fun y hy => h y (List.mem_cons_of_mem _ hy)]
theorem lm_bd {ru : RuV} (h : RuOk ru) : Bd 1000 (lmV ru) ∧ 0 ≤ lmV ru := by
  obtain ⟨a, b⟩ := h.lat
  obtain ⟨c, d⟩ := h.rad
  unfold lmV
  exact ⟨Bd.mono (k := 1000) (j := 10) (Bd.of (by omega) (by omega)) (by decide), by omega⟩
theorem spV_comm (ru : RuV) (b : B4) (ps : List Sg) (c : B4) (qs : List Sg) : spV ru c qs b ps = spV ru b ps c qs := by
  unfold spV
  rw [abV_comm, ← any_swap ps qs (fun x y => lcV x y (lmV ru))]
  congr 2
  exact any_ext fun a _ => any_ext fun b _ => lc_comm b a _
end Law
set_option Elab.async false
set_option linter.all false
set_option maxRecDepth 100000
set_option maxHeartbeats 4100000
/-! SpB: separated boxes, walked. -/
namespace Law
open PySem L2 Evl Sk MP M10
local macro_rules | `(tactic| walk_at "sc") => `(tactic| first | omega | assumption | trivial | (with_reducible exact mulOk) | (with_reducible exact smOk) | (with_reducible exact ⟨by decide, smOk⟩) | decide | rfl | (simp only [List.length_cons, List.length_nil]; decide))
section
variable {P : Program} {w : World} {K : PySem.W.Frag} {mg : Str → Option Value} {base : Heap}
abbrev sp_are_above (K : Fg) : Sp := spF K [] (fCons rRules (fCons rB4 (fOne rB4))) (fun x => RuOk x.1) rBool fun x => abV x.1 x.2.1 x.2.2
abbrev N_are_above : List Str := ["rules", "box", "other_box", "gap"]
theorem sc_are_above : FnScope N_are_above ["rules", "box", "other_box"] (defScope s_are_above) := ⟨rfl, rfl, rfl, by decide +kernel, rfl, by decide +kernel, by decide +kernel⟩
theorem ok_are_above (N : Nm K mg) (T : Bt mg) : FnOk P w K mg base CX0 1 N.are_above.f N.are_above.fd ["rules", "box", "other_box"] (sp_are_above K) := by
  refine fn_m N.are_above.F sc_are_above [] fun cdv A outer s G H E x Q fam hp hk => ?_
  obtain ⟨ru, b, c⟩ := x
  have hru : RuOk ru := hp
  obtain ⟨v1, v2⟩ := hru.ban
  have i1 : Bd 10 (bandOf ru) := Bd.of (by omega) (by omega)
  show DS _ K ⟨[], _, G, H, []⟩ [some ⟨rRules, ru⟩, some ⟨rB4, b⟩, some ⟨rB4, c⟩, none] _ (defBody s_are_above) _
  refine s_set 3 (d_callB T.max bt_max (da_cons (d_bin (d_ix (d_var 1 (d_int (i_tup 2 (d_ix (d_var 2 (d_int (i_tup 3 (o_sub (da_one (d_bin (d_ix (d_var 2 (d_int (i_tup 2 (d_ix (d_var 1 (d_int (i_tup 3 (o_sub (c_max2 ?_))))))))))))))))))))))))
  refine s_ret (d_cmp (d_var 3 (d_bin (d_recP 0 1 rfl ruN_nd (d_bin (d_int (d_recP 0 3 rfl ruN_nd (o_mul (by exact mulOk) (o_add (o_ge (hk ⟨rfl, rfl⟩)))))))))))
end
end Law
set_option Elab.async false
set_option linter.all false
set_option maxRecDepth 100000
set_option maxHeartbeats 4100000
/-! DsA: the distance of two segments rounded down, in plain Lean (k03). -/
namespace Law
def scV (x y : Sg) : Int := x.2.2.2.2 * y.2.2.2.2
/-- rt: a root rounded down -/
structure RtDn (rt : Int → Int) : Prop where
  nn : ∀ z, 0 ≤ z → 0 ≤ rt z
  le : ∀ z, 0 ≤ z → rt z * rt z ≤ z
  gt : ∀ z, 0 ≤ z → z < (rt z + 1) * (rt z + 1)
theorem dt_nn (a b : Pt) : 0 ≤ dtV a b b := by
  unfold dtV
  have h1 := mul_self_nn (b.1 - a.1)
  have h2 := mul_self_nn (b.2 - a.2)
  omega
theorem ps_ok (p s e : Pt) : 0 ≤ (psV p s e).1 ∧ 1 ≤ (psV p s e).2 := by
  have h1 := dt_nn p s
  have h2 := dt_nn p e
  have h3 := mul_self_nn (crV s e p)
  unfold psV
  split
  · exact ⟨h1, Int.le_refl _⟩
  · split
    · exact ⟨h2, Int.le_refl _⟩
    · exact ⟨h3, by dsimp only; omega⟩
/-- no nearer than D, nearer than D + 1 -/
theorem rt_far {rt : Int → Int} (hr : RtDn rt) {a b s : Int} (ha : 0 ≤ a) (hb : 1 ≤ b) (hs : 1 ≤ s) {d : Int} (h0 : 0 ≤ d) (h : d ≤ rt (a / (b * s * s))) : ¬ a < d * d * s * s * b := by
  have hm : 0 < b * s * s := Int.mul_pos (Int.mul_pos (by omega) (by omega)) (by omega)
  have hz : 0 ≤ a / (b * s * s) := Int.ediv_nonneg ha (by omega)
  have h1 := hr.le _ hz
  have h2 : d * d ≤ rt (a / (b * s * s)) * rt (a / (b * s * s)) := Int.mul_le_mul h h h0 (by omega)
  have h3 : d * d ≤ a / (b * s * s) := by omega
  have h4 : d * d * (b * s * s) ≤ a := (Int.le_ediv_iff_mul_le hm).mp h3
  have e : d * d * s * s * b = d * d * (b * s * s) := by grind
  omega
theorem rt_near {rt : Int → Int} (hr : RtDn rt) {a b s : Int} (ha : 0 ≤ a) (hb : 1 ≤ b) (hs : 1 ≤ s) : a < (rt (a / (b * s * s)) + 1) * (rt (a / (b * s * s)) + 1) * s * s * b := by
  have hm : 0 < b * s * s := Int.mul_pos (Int.mul_pos (by omega) (by omega)) (by omega)
  have hz : 0 ≤ a / (b * s * s) := Int.ediv_nonneg ha (by omega)
  have h1 := hr.gt _ hz
  generalize rt (a / (b * s * s)) = r at h1
  have h4 : a < (r + 1) * (r + 1) * (b * s * s) := (Int.ediv_lt_iff_lt_mul hm).mp h1
  have e : (r + 1) * (r + 1) * s * s * b = (r + 1) * (r + 1) * (b * s * s) := by grind
  omega
def qsV (x y : Sg) : List Pt := [psV (sA x y) (sA y x) (sB y x), psV (sB x y) (sA y x) (sB y x), psV (sA y x) (sA x y) (sB x y), psV (sB y x) (sA x y) (sB x y)]
theorem lc_qs (x y : Sg) (l : Int) : lcV x y l = ((decide (0 < lqV x y l) && crB (sA x y) (sB x y) (sA y x) (sB y x)) || (qsV x y).any (blV (lqV x y l))) := by
  unfold lcV qsV
  simp only [List.any_cons, List.any_nil, ps_pc, Bool.or_false, Bool.or_assoc]
/-- what the distance is -/
structure DistOk (rt : Int → Int) (x y : Sg) (d : Int) : Prop where
  nn : 0 ≤ d
  cr : crB (sA x y) (sB x y) (sA y x) (sB y x) = true → d = 0
  le : crB (sA x y) (sB x y) (sA y x) (sB y x) = false → ∀ z ∈ qsV x y, d ≤ rt (z.1 / (z.2 * scV x y * scV x y))
  eq : crB (sA x y) (sB x y) (sA y x) (sB y x) = false → ∃ z ∈ qsV x y, d = rt (z.1 / (z.2 * scV x y * scV x y))
theorem lq_sc (x y : Sg) (l : Int) : lqV x y l = l * l * scV x y * scV x y := by
  unfold lqV scV
  grind
theorem qs_ok (x y : Sg) : ∀ z ∈ qsV x y, 0 ≤ z.1 ∧ 1 ≤ z.2 := by
  intro z hz
  simp only [qsV, List.mem_cons, List.not_mem_nil, or_false] at hz
  rcases hz with e | e | e | e <;> rw [e] <;> exact ps_ok _ _ _
theorem dist_far {rt : Int → Int} (hr : RtDn rt) {x y : Sg} {d : Int} (hx : 1 ≤ x.2.2.2.2) (hy : 1 ≤ y.2.2.2.2) (h : DistOk rt x y d) : lcV x y d = false := by
  have hs : 1 ≤ scV x y := Int.mul_pos (by omega) (by omega)
  rw [lc_qs, Bool.or_eq_false_iff]
  have key : ∀ z ∈ qsV x y, blV (lqV x y d) z = false := fun z hz => by
    obtain ⟨z1, z2⟩ := qs_ok x y z hz
    refine decide_eq_false ?_
    rw [lq_sc]
    cases hc : crB (sA x y) (sB x y) (sA y x) (sB y x) with
    | true =>
      rw [h.cr hc]
      simp only [Int.zero_mul]
      omega
    | false => exact rt_far hr z1 z2 hs h.nn (h.le hc z hz)
  refine ⟨?_, List.any_eq_false.mpr fun z hz => by rw [key z hz]; decide⟩
  cases hc : crB (sA x y) (sB x y) (sA y x) (sB y x) with
  | false => exact Bool.and_false _
  | true =>
    rw [h.cr hc, Bool.and_true]
    refine decide_eq_false ?_
    rw [lq_sc]
    simp
theorem dist_near {rt : Int → Int} (hr : RtDn rt) {x y : Sg} {d : Int} (hx : 1 ≤ x.2.2.2.2) (hy : 1 ≤ y.2.2.2.2) (h : DistOk rt x y d) : lcV x y (d + 1) = true := by
  have hs : 1 ≤ scV x y := Int.mul_pos (by omega) (by omega)
  rw [lc_qs, Bool.or_eq_true]
  have hn := h.nn
  cases hc : crB (sA x y) (sB x y) (sA y x) (sB y x) with
  | true =>
    refine .inl ?_
    rw [Bool.and_true]
    exact decide_eq_true ((lq_pos hx hy (by omega)).mpr (by omega))
  | false =>
    obtain ⟨z, hz, e⟩ := h.eq hc
    obtain ⟨z1, z2⟩ := qs_ok x y z hz
    refine .inr (List.any_eq_true.mpr ⟨z, hz, decide_eq_true ?_⟩)
    rw [lq_sc, e]
    exact rt_near hr z1 z2 hs
end Law
set_option Elab.async false
set_option linter.all false
set_option maxRecDepth 100000
set_option maxHeartbeats 4100000
/-! DsB: distance_down, walked (k03). -/
namespace Law
open PySem L2 Evl Sk
local macro_rules | `(tactic| walk_at "sc") => `(tactic| first | omega | assumption | trivial | (with_reducible exact mulOk) | decide | rfl | (simp only [List.length_cons, List.length_nil]; decide))
section
variable {P : Program} {w : World} {K : PySem.W.Frag} {mg : Str → Option Value} {base : Heap}
theorem sqr_rt : RtDn sqr := ⟨fun z h => (sqr_ok h).1, fun z h => (sqr_ok h).2.1, fun z h => (sqr_ok h).2.2⟩
theorem lc_mono {x y : Sg} {l l' : Int} (hx : 1 ≤ x.2.2.2.2) (hy : 1 ≤ y.2.2.2.2) (h0 : 0 ≤ l) (h : l ≤ l') (hl : lcV x y l = true) : lcV x y l' = true := by
  have hs : 1 ≤ scV x y := Int.mul_pos (by omega) (by omega)
  have hq : lqV x y l ≤ lqV x y l' := by
    rw [lq_sc, lq_sc]
    have h1 : l * l ≤ l' * l' := Int.mul_le_mul h h h0 (by omega)
    exact Int.mul_le_mul_of_nonneg_right (Int.mul_le_mul_of_nonneg_right h1 (by omega)) (by omega)
  rw [lc_qs, Bool.or_eq_true] at hl ⊢
  rcases hl with z | z
  · rw [Bool.and_eq_true] at z ⊢
    exact .inl ⟨decide_eq_true (Int.lt_of_lt_of_le (of_decide_eq_true z.1) hq), z.2⟩
  · obtain ⟨u, hu, e⟩ := List.any_eq_true.mp z
    obtain ⟨z1, z2⟩ := qs_ok x y u hu
    refine .inr (List.any_eq_true.mpr ⟨u, hu, decide_eq_true ?_⟩)
    have e1 : u.1 < lqV x y l * u.2 := of_decide_eq_true e
    exact Int.lt_of_lt_of_le e1 (Int.mul_le_mul_of_nonneg_right hq (by omega))
theorem ps_bd1 {p a b : Pt} (hp : PB p) (ha : PB a) (hb : PB b) : Bd 9000 (psV p a b).1 := by
  have h1 := dt_bd hp ha ha
  have h2 := dt_bd hp hb hb
  have h3 := cr_bd ha hb hp
  unfold psV
  split
  · exact Bd.mono h1 (by decide)
  · split
    · exact Bd.mono h2 (by decide)
    · exact Bd.mono (j := 4100 + 4100) (show Bd (4100 + 4100) (crV a b p * crV a b p) from inferInstance) (by decide)
theorem sqL_bd1 {e : Q4} (h1 : PB e.1) (h2 : PB e.2.1) (h3 : PB e.2.2.1) (h4 : PB e.2.2.2) : ∀ z ∈ sqL e, Bd 9000 z.1 := by
  intro z hz
  simp only [sqL, List.mem_cons, List.not_mem_nil, or_false] at hz
  rcases hz with e | e | e | e <;> rw [e] <;> apply ps_bd1 <;> assumption
theorem ediv_bd {a b : Int} {k : Nat} (h : Bd k a) (ha : 0 ≤ a) (hb : 0 < b) : Bd k (a / b) := ⟨by
  have h1 := h.lt
  have h2 : a / b ≤ a := Int.ediv_le_self b ha
  have h3 := Int.ediv_nonneg ha (Int.le_of_lt hb)
  omega⟩
abbrev sp_root_down (K : Fg) : Sp := spF K [] (fOne rInt) (fun n => 0 ≤ n ∧ Bd 9000 n) rInt sqr
abbrev N_root_down : List Str := ["n"]
theorem sc_root_down : FnScope N_root_down ["n"] (defScope s_root_down) := ⟨rfl, rfl, rfl, by decide +kernel, rfl, by decide +kernel, by decide +kernel⟩
theorem ok_root_down (N : Nm K mg) (T : Bt mg) : FnOk P w K mg base CX0 1 N.root_down.f N.root_down.fd ["n"] (sp_root_down K) := by
  refine fn_m N.root_down.F sc_root_down [] fun cdv A outer s G H E x Q fam hp hk => ?_
  obtain ⟨h0, hb⟩ := hp
  show DS _ K ⟨[], _, G, H, []⟩ [some ⟨rInt, x⟩] _ (defBody s_root_down) _
  exact s_ret (d_callG T.isqrt (da_one (d_var 0 (c_sqrt h0 (hk ⟨rfl, rfl⟩)))))
def rtV (x y : Sg) (z : Pt) : Int := sqr (z.1 / (z.2 * scV x y * scV x y))
def dsV (x y : Sg) : Int := if crB (sA x y) (sB x y) (sA y x) (sB y x) = true then 0 else (minO (rtV x y) (qsV x y)).getD 0
theorem mnV_le (b : Option Int) (k : Int) : mnV b k ≤ k ∧ (∀ j, b = some j → mnV b k ≤ j) ∧ (mnV b k = k ∨ b = some (mnV b k)) := by
  cases b with
  | none => exact ⟨Int.le_refl _, (fun j h => nomatch h), .inl rfl⟩
  | some j =>
    show (if k < j then k else j) ≤ k ∧ (∀ i, some j = some i → (if k < j then k else j) ≤ i) ∧ ((if k < j then k else j) = k ∨ some j = some (if k < j then k else j))
    split
    · exact ⟨Int.le_refl _, (fun i h => by cases h; omega), .inl rfl⟩
    · exact ⟨by omega, (fun i h => by cases h; omega), .inr rfl⟩
theorem minO_ok {α : Type} (f : α → Int) (x : α) (xs : List α) : ∃ m, minO f (x :: xs) = some m ∧ (∀ y ∈ x :: xs, m ≤ f y) ∧ ∃ y ∈ x :: xs, m = f y := by
  have key : ∀ (ys : List α) (b : Int), ∃ m, ys.foldl (fun b x => some (mnV b (f x))) (some b) = some m ∧ m ≤ b ∧ (∀ y ∈ ys, m ≤ f y) ∧ (m = b ∨ ∃ y ∈ ys, m = f y) := by
    intro ys
    induction ys with
    | nil => exact fun b => ⟨b, rfl, Int.le_refl _, fun y h => absurd h List.not_mem_nil, .inl rfl⟩
    | cons y ys ih =>
      intro b
      obtain ⟨h1, h2, h3⟩ := mnV_le (some b) (f y)
      obtain ⟨m, e, l1, l2, l3⟩ := ih (mnV (some b) (f y))
      refine ⟨m, e, Int.le_trans l1 (h2 b rfl), fun z hz => ?_, ?_⟩
      · rcases List.mem_cons.mp hz with e | e
        · rw [e]
          exact Int.le_trans l1 h1
        · exact l2 z e
      · rcases l3 with e | ⟨z, hz, e⟩
        · rcases h3 with e2 | e2
          · exact .inr ⟨y, List.mem_cons_self, e.trans e2⟩
          · exact .inl (by rw [e]; exact (Option.some.inj e2).symm)
        · exact .inr ⟨z, List.mem_cons_of_mem _ hz, e⟩
  obtain ⟨m, e, l1, l2, l3⟩ := key xs (f x)
  refine ⟨m, e, fun y hy => ?_, ?_⟩
  · rcases List.mem_cons.mp hy with e | e
    · rw [e]
      exact l1
    · exact l2 y e
  · rcases l3 with e | ⟨z, hz, e⟩
    · exact ⟨x, List.mem_cons_self, e⟩
    · exact ⟨z, List.mem_cons_of_mem _ hz, e⟩
theorem ds_min (x y : Sg) : ∃ m, minO (rtV x y) (qsV x y) = some m ∧ (∀ z ∈ qsV x y, m ≤ rtV x y z) ∧ ∃ z ∈ qsV x y, m = rtV x y z := minO_ok _ _ _
theorem ds_ok {x y : Sg} (hx : 1 ≤ x.2.2.2.2) (hy : 1 ≤ y.2.2.2.2) : DistOk sqr x y (dsV x y) := by
  have hs : 1 ≤ scV x y := Int.mul_pos (by omega) (by omega)
  obtain ⟨m, e, l1, z, hz, e2⟩ := ds_min x y
  have nn : ∀ z ∈ qsV x y, 0 ≤ rtV x y z := fun z hz => by
    obtain ⟨z1, z2⟩ := qs_ok x y z hz
    exact sqr_rt.nn _ (Int.ediv_nonneg z1 (Int.le_of_lt (Int.mul_pos (Int.mul_pos (by omega) (by omega)) (by omega))))
  unfold dsV
  refine ⟨?_, fun h => if_pos h, fun h z hz => ?_, fun h => ?_⟩
  · split
    · exact Int.le_refl _
    · rw [e]
      show 0 ≤ m
      rw [e2]
      exact nn z hz
  · rw [if_neg (by rw [h]; decide), e]
    exact l1 z hz
  · rw [if_neg (by rw [h]; decide), e]
    exact ⟨z, hz, e2⟩
end
end Law
set_option Elab.async false
set_option linter.all false
set_option maxRecDepth 100000
set_option maxHeartbeats 4100000
/-! DsB2: distance_down, walked (k03). -/
namespace Law
open PySem L2 Evl Sk
local macro_rules | `(tactic| walk_at "sc") => `(tactic| first | omega | assumption | trivial | (with_reducible exact mulOk) | decide | rfl | (simp only [List.length_cons, List.length_nil]; decide))
section
variable {P : Program} {w : World} {K : PySem.W.Frag} {mg : Str → Option Value} {base : Heap}
abbrev sp_distance_down (K : Fg) (T : List Addr) : Sp := spF K T (fCons rSg (fOne rSg)) (fun x => SgB x.1 ∧ SgB x.2) rInt fun x => dsV x.1 x.2
abbrev N_distance_down : List Str := ["first", "second", "ends", "scale", "above", "below"]
theorem sc_distance_down : FnScope N_distance_down ["first", "second"] (defScope s_distance_down) := ⟨rfl, rfl, rfl, by decide +kernel, rfl, by decide +kernel, by decide +kernel⟩
theorem ok_distance_down (N : Nm K mg) (T : Bt mg) (Y : Tb0 N base) : FnOk P w K mg base CX0 4 N.distance_down.f N.distance_down.fd ["first", "second"] (sp_distance_down K (tsOf N)) := by
  refine fn_g N.distance_down.F N.distance_downT.hc sc_distance_down (tsOf N) fun A outer s G H E x Q fam hp hk => ?_
  obtain ⟨x, y⟩ := x
  obtain ⟨hx, hy⟩ := hp
  have hx : SgB x := hx
  have hy : SgB y := hy
  have hA := sA_bd hx hy
  have hB := sB_bd hx hy
  have hP := sA_bd hy hx
  have hQ := sB_bd hy hx
  have i1 := hx.e
  have i2 := hy.e
  have hsc : Bd 2000 (scV x y) := show Bd (1000 + 1000) (x.2.2.2.2 * y.2.2.2.2) from inferInstance
  have hs : 1 ≤ scV x y := Int.mul_pos (by have := hx.pos; omega) (by have := hy.pos; omega)
  show DS _ K ⟨tsOf N, _, G, H, []⟩ [some ⟨rSg, x⟩, some ⟨rSg, y⟩, none, none, none, none] _ (defBody s_distance_down) _
  refine s_asg (d_call N.common (ok_common N T) (da_cons (d_var 0 (da_one (d_var 1 (sw_f (by exact ⟨hx, hy⟩) (g_tup (gs_cons (g_name 2 (gs_one (g_name 3 ?_)))))))))))
  refine s_ifP (dt_val (d_call N.crosses (ok_crosses N T) (da_cons (d_ix (d_var 2 (d_int (i_tup 0 (da_cons (d_ix (d_var 2 (d_int (i_tup 1 (da_cons (d_ix (d_var 2 (d_int (i_tup 2 (da_one (d_ix (d_var 2 (d_int (i_tup 3 (sw_f (by exact ⟨hA, hB, hP, hQ⟩) ⟨rfl, rfl⟩))))))))))))))))))))))) (fun h1 => ?_) (fun h1 => s_out ?_)
  · refine s_ret (d_int (hk ⟨rfl, ?_⟩))
    show 0 = dsV x y
    have h1 : csV (sA x y) (sB x y) (sA y x) (sB y x) = true := h1
    rw [cs_cr] at h1
    unfold dsV
    rw [if_pos h1]
  have h1 : csV (sA x y) (sB x y) (sA y x) (sB y x) = false := h1
  rw [cs_cr] at h1
  obtain ⟨m, em, _, _⟩ := ds_min x y
  have es : sqL (enV x y) = qsV x y := rfl
  rw [← es] at em
  refine s_ret (d_gxMin (js := [4, 5]) (ra := rPt) (f := rtV x y) [("above", 4), ("below", 5)] [4, 5] N.distance_downT.P0 (by simp) (by exact tabF Y.distance_down) (fun _ => gxOk_by (N := N_distance_down) (sc := defScope s_distance_down) (by decide +kernel)) T.min (w_tpv (d_call N.squares (ok_squares N T) (da_one (d_var (ra := rQ4) (x := enV x y) 2 (sw_f (by exact ⟨hA, hB, hP, hQ⟩) ⟨rfl, fun gg D ys z hz => ?_, m, em, hk ⟨rfl, ?_⟩⟩))))))
  · have hz2 := sqL_bd hA hB hP hQ z hz
    have hz3 := sqL_bd1 hA hB hP hQ z hz
    obtain ⟨q1, q2⟩ := qs_ok x y z (by rw [← es]; exact hz)
    have pos : 0 < z.2 * scV x y * scV x y := Int.mul_pos (Int.mul_pos (by omega) (by omega)) (by omega)
    have hm1 : Bd 6100 (z.2 * scV x y) := show Bd (4100 + 2000) _ from inferInstance
    have hbm : Bd 8100 (z.2 * scV x y * scV x y) := show Bd (4100 + 2000 + 2000) _ from inferInstance
    refine g_tup (gs_cons (g_name 4 (gs_one (g_name 5 (d_call N.root_down (ok_root_down N T) (da_one (d_bin (d_var (ra := rInt) (x := z.1) 4 (d_bin (d_bin (d_var (ra := rInt) (x := z.2) 5 (d_var (ra := rInt) (x := scV x y) 3 (o_mul (@mulOk 4100 2000 _ _ hz2 hsc (by decide)) (d_var (ra := rInt) (x := scV x y) 3 (o_mul (@mulOk 6100 2000 _ _ hm1 hsc (by decide)) (o_div (@divOk 8100 _ _ hbm pos (by decide)) (sw_f ⟨Int.ediv_nonneg q1 (Int.le_of_lt pos), ediv_bd hz3 q1 pos⟩ ⟨rfl, rfl⟩)))))))))))))))))
  · show m = dsV x y
    unfold dsV
    rw [if_neg (by rw [h1]; decide), ← es, em]
    rfl
end
end Law
set_option Elab.async false
set_option linter.all false
set_option maxRecDepth 100000
set_option maxHeartbeats 4100000
/-! MN: narrowed estimates of offsets, plainly. -/
namespace MP
open PySem L2 Evl Sk M10
/-! ### ends of a line -/
/-- n over l is a coordinate of an end -/
def EndIn (S : List (List Int)) (ax : Nat) (n l : Int) : Prop := ∃ s ∈ S, l = s.getD 4 0 ∧ (n = s.getD ax 0 ∨ n = s.getD (ax + 2) 0)
def Dn (S : List (List Int)) (ax : Nat) (v : Int) : Prop := ∃ n l, EndIn S ax n l ∧ v = n / l
def Up (S : List (List Int)) (ax : Nat) (v : Int) : Prop := ∃ n l, EndIn S ax n l ∧ v = -((-n) / l)
structure SgOk (s : List Int) : Prop where
  len : s.length = 5
  pos : 0 < s.getD 4 0
def narA (k0 k1 c mg U D : Int) : Option (Int × Int) := if mx k0 (c - mg - D) ≤ mn k1 (c + mg - U) then some (mx k0 (c - mg - D), mn k1 (c + mg - U)) else none
def nar2 : Option (Int × Int) → Option (Int × Int) → Option B4
  | some a, some b => some (a.1, a.2, b.1, b.2)
  | _, _ => none
/-- what narrowing an estimate gives -/
def Nar (e : B4) (mg : Int) (pl : P3) (S : List (List Int)) (y : Option B4) : Prop := ∃ U0 D0 U1 D1, IsMin (Up S 0) U0 ∧ IsMax (Dn S 0) D0 ∧ IsMin (Up S 1) U1 ∧ IsMax (Dn S 1) D1 ∧ y = nar2 (narA e.1 e.2.1 pl.1 mg U0 D0) (narA e.2.2.1 e.2.2.2 pl.2.1 mg U1 D1)
theorem Nar.eq {e : B4} {mg : Int} {pl : P3} {S : List (List Int)} {y z : Option B4} (h : Nar e mg pl S y) (h' : Nar e mg pl S z) : y = z := by
  obtain ⟨a, b, c, d, h1, h2, h3, h4, e1⟩ := h
  obtain ⟨a', b', c', d', g1, g2, g3, g4, e2⟩ := h'
  rw [e1, e2, h1.eq g1, h2.eq g2, h3.eq g3, h4.eq g4]
theorem EndIn.pos {S : List (List Int)} (h : ∀ s ∈ S, SgOk s) {ax : Nat} {n l : Int} (e : EndIn S ax n l) : 0 < l := by
  obtain ⟨s, hs, e1, _⟩ := e
  rw [e1]
  exact (h s hs).pos
/-! ### near, triangles -/
theorem sq_abs {a b : Int} (hb : 0 ≤ b) (h : a * a ≤ b * b) : -b ≤ a ∧ a ≤ b := by
  constructor
  · rcases Int.lt_or_le a (-b) with z | z
    · exfalso
      have : b * b < -a * -a := sq_lt hb (by omega)
      rw [Int.neg_mul_neg] at this
      omega
    · exact z
  · rcases Int.lt_or_le b a with z | z
    · exfalso
      have : b * b < a * a := sq_lt hb z
      omega
    · exact z
theorem sq_le_of {a b : Int} (h1 : -b ≤ a) (h2 : a ≤ b) : a * a ≤ b * b := by
  rcases Int.le_total 0 a with z | z
  · exact Int.mul_le_mul h2 h2 z (by omega)
  · have := Int.mul_le_mul (a := -a) (b := -a) (c := b) (d := b) (by omega) (by omega) (by omega) (by omega)
    rw [Int.neg_mul_neg] at this
    exact this
/-! ### the piece of a box -/
structure PcOk (fx : Fx) (r : List Str) : Prop where
  two : 2 ≤ r.length
  st : Strict fx r
end MP
set_option Elab.async false
set_option linter.all false
set_option maxRecDepth 100000
set_option maxHeartbeats 4100000
/-! RcA: a place on a segment, near a point; in plain Lean. -/
namespace Law
open PySem L2 Evl Sk MP M10
local macro_rules | `(tactic| walk_at "sc") => `(tactic| first | omega | assumption | trivial | (with_reducible exact mulOk) | (with_reducible exact smOk) | (with_reducible exact ⟨by decide, smOk⟩) | decide | rfl | (simp only [List.length_cons, List.length_nil]; decide) | exact divOk (by omega))
theorem pc_on {a b C : Pt} {q t m : Int} (h0 : 0 ≤ t) (h1 : t ≤ m) (hm : 0 < m) (h : (m * (C.1 - a.1) - t * (b.1 - a.1)) * (m * (C.1 - a.1) - t * (b.1 - a.1)) + (m * (C.2 - a.2) - t * (b.2 - a.2)) * (m * (C.2 - a.2) - t * (b.2 - a.2)) < m * m * q) : pcV C a b q = true := by
  have hmm : 0 < m * m := Int.mul_pos hm hm
  unfold pcV dtV crV
  generalize hw1 : C.1 - a.1 = w1 at h ⊢
  generalize hw2 : C.2 - a.2 = w2 at h ⊢
  generalize hd1 : b.1 - a.1 = d1 at h ⊢
  generalize hd2 : b.2 - a.2 = d2 at h ⊢
  have e1 : C.1 - b.1 = w1 - d1 := by omega
  have e2 : C.2 - b.2 = w2 - d2 := by omega
  rw [e1, e2]
  have q1 := sq_nn (m * w1 - t * d1)
  have q2 := sq_nn (m * w2 - t * d2)
  have d1s := sq_nn d1
  have d2s := sq_nn d2
  split
  · rename_i c
    refine decide_eq_true ?_
    have p1 : 0 ≤ t * t * (d1 * d1 + d2 * d2) := Int.mul_nonneg (sq_nn t) (by omega)
    have p2 : m * t * (d1 * w1 + d2 * w2) ≤ 0 := Int.mul_nonpos_of_nonneg_of_nonpos (Int.mul_nonneg (Int.le_of_lt hm) h0) c
    have e : (m * w1 - t * d1) * (m * w1 - t * d1) + (m * w2 - t * d2) * (m * w2 - t * d2) = m * m * (w1 * w1 + w2 * w2) - 2 * (m * t * (d1 * w1 + d2 * w2)) + t * t * (d1 * d1 + d2 * d2) := by grind
    exact Int.lt_of_mul_lt_mul_left (a := m * m) (by omega) (Int.le_of_lt hmm)
  · split
    · rename_i c
      refine decide_eq_true ?_
      have p1 : 0 ≤ (m - t) * (m - t) * (d1 * d1 + d2 * d2) := Int.mul_nonneg (sq_nn _) (by omega)
      have p2 : 0 ≤ m * (m - t) * ((d1 * w1 + d2 * w2) - (d1 * d1 + d2 * d2)) := Int.mul_nonneg (Int.mul_nonneg (Int.le_of_lt hm) (by omega)) (by omega)
      have e : (m * w1 - t * d1) * (m * w1 - t * d1) + (m * w2 - t * d2) * (m * w2 - t * d2) = m * m * ((w1 - d1) * (w1 - d1) + (w2 - d2) * (w2 - d2)) + 2 * (m * (m - t) * ((d1 * w1 + d2 * w2) - (d1 * d1 + d2 * d2))) + (m - t) * (m - t) * (d1 * d1 + d2 * d2) := by grind
      exact Int.lt_of_mul_lt_mul_left (a := m * m) (by omega) (Int.le_of_lt hmm)
    · rename_i c1 c2
      refine decide_eq_true ?_
      have dp : 0 < d1 * d1 + d2 * d2 := by omega
      have l := sq_nn (d1 * (m * w1 - t * d1) + d2 * (m * w2 - t * d2))
      have e : m * m * ((d1 * w2 - d2 * w1) * (d1 * w2 - d2 * w1)) + (d1 * (m * w1 - t * d1) + d2 * (m * w2 - t * d2)) * (d1 * (m * w1 - t * d1) + d2 * (m * w2 - t * d2)) = (d1 * d1 + d2 * d2) * ((m * w1 - t * d1) * (m * w1 - t * d1) + (m * w2 - t * d2) * (m * w2 - t * d2)) := by grind
      have s := Int.mul_lt_mul_of_pos_left h dp
      have e3 : (d1 * d1 + d2 * d2) * (m * m * q) = m * m * (q * (d1 * d1 + d2 * d2)) := by grind
      exact Int.lt_of_mul_lt_mul_left (a := m * m) (by omega) (Int.le_of_lt hmm)
/-- a place (X / n, Y / n) on a segment -/
structure OnSg (s : Sg) (X Y n : Int) : Prop where
  ex : ∃ t m : Int, 0 ≤ t ∧ t ≤ m ∧ 0 < m ∧ X * s.2.2.2.2 * m = (s.1 * m + (s.2.2.1 - s.1) * t) * n ∧ Y * s.2.2.2.2 * m = (s.2.1 * m + (s.2.2.2.1 - s.2.1) * t) * n
theorem tri_lt {A B a b P Q : Int} (hP : 0 ≤ P) (hQ : 0 ≤ Q) (h1 : A * A + B * B < P * P) (h2 : a * a + b * b ≤ Q * Q) : (A - a) * (A - a) + (B - b) * (B - b) < (P + Q) * (P + Q) := by
  have e1 : (A * a + B * b) * (A * a + B * b) + (A * b - B * a) * (A * b - B * a) = (A * A + B * B) * (a * a + b * b) := by grind
  have z := sq_nn (A * b - B * a)
  have p1 := sq_nn A
  have p2 := sq_nn B
  have p3 := sq_nn a
  have p4 := sq_nn b
  have e2 : (A * A + B * B) * (a * a + b * b) ≤ (P * P) * (Q * Q) := Int.mul_le_mul (by omega) h2 (by omega) (sq_nn P)
  have e3 : (P * P) * (Q * Q) = (P * Q) * (P * Q) := by grind
  obtain ⟨c1, c2⟩ := sq_abs (a := A * a + B * b) (Int.mul_nonneg hP hQ) (by omega)
  have e4 : (A - a) * (A - a) + (B - b) * (B - b) = (A * A + B * B) + (a * a + b * b) - 2 * (A * a + B * b) := by grind
  have e5 : (P + Q) * (P + Q) = P * P + Q * Q + 2 * (P * Q) := by grind
  omega
/-- a place of a box stands on a segment of its piece -/
theorem piece_on {fx : Fx} {r : List Str} (h : PcOk fx r) {lo hi p : Int} (h1 : lo ≤ p) (h2 : p ≤ hi) (p0 : 0 ≤ p) (p1 : p < tot fx r) :
    ∃ s ∈ pcs fx r lo hi, OnSg s (onL fx r (la fx r p) p).1 (onL fx r (la fx r p) p).2.1 (onL fx r (la fx r p) p).2.2 := by
  have f1 : mx lo 0 ≤ p := by
    unfold mx
    split <;> omega
  have f2 : p ≤ mn hi (tot fx r) := by
    unfold mn
    split <;> omega
  have hk := Law.la_lt h.two (fx := fx) p
  have L := la_ok fx h.two p
  have b1 : bg fx r (la fx r p) ≤ p := by
    rcases Nat.eq_zero_or_pos (la fx r p) with z | z
    · rw [z]
      show (0 : Int) ≤ p
      exact p0
    · exact L.le _ z (Nat.le_refl _)
  have b2 : p < bg fx r (la fx r p + 1) := by
    rcases L.en with z | z
    · rw [z]
      have : bg fx r (r.length - 1) = tot fx r := rfl
      omega
    · exact z
  unfold pcs piece
  rw [if_neg (by simp only [Bool.or_eq_true, decide_eq_true_eq]; omega)]
  by_cases e : mx lo 0 = mn hi (tot fx r)
  · rw [if_pos (decide_eq_true e)]
    have ep : mx lo 0 = p := by omega
    rw [ep]
    refine ⟨_, List.mem_map.mpr ⟨_, List.mem_singleton.mpr rfl, rfl⟩, ⟨0, 1, by decide, by decide, by decide, ?_, ?_⟩⟩
    · show (onL fx r (la fx r p) p).1 * (onL fx r (la fx r p) p).2.2 * 1 = ((onL fx r (la fx r p) p).1 * 1 + ((onL fx r (la fx r p) p).1 - (onL fx r (la fx r p) p).1) * 0) * (onL fx r (la fx r p) p).2.2
      grind
    · show (onL fx r (la fx r p) p).2.1 * (onL fx r (la fx r p) p).2.2 * 1 = ((onL fx r (la fx r p) p).2.1 * 1 + ((onL fx r (la fx r p) p).2.1 - (onL fx r (la fx r p) p).2.1) * 0) * (onL fx r (la fx r p) p).2.2
      grind
  · rw [if_neg (by rw [decide_eq_true_eq]; exact e)]
    have f0 : 0 ≤ mx lo 0 := by
      unfold mx
      split <;> omega
    generalize mx lo 0 = a at e f1 f0
    generalize mn hi (tot fx r) = b at e f2
    generalize ek : la fx r p = k at hk b1 b2
    have lp := bg_lt h.st hk
    by_cases hs : mx a (bg fx r k) < mn b (bg fx r (k + 1))
    · have ms : seg fx r a b k = [_] := if_pos (decide_eq_true hs)
      have u1 : mx a (bg fx r k) ≤ p := by
        unfold mx
        split <;> omega
      have u2 : p ≤ mn b (bg fx r (k + 1)) := by
        unfold mn
        split <;> omega
      refine ⟨_, List.mem_map.mpr ⟨_, List.mem_flatMap.mpr ⟨k, List.mem_range.mpr (by omega), by rw [ms]; exact List.mem_singleton.mpr rfl⟩, rfl⟩, ⟨p - mx a (bg fx r k), mn b (bg fx r (k + 1)) - mx a (bg fx r k), by omega, by omega, by omega, ?_, ?_⟩⟩
      · show (onL fx r k p).1 * (onL fx r k (mx a (bg fx r k))).2.2 * _ = ((onL fx r k (mx a (bg fx r k))).1 * _ + ((onL fx r k (mn b (bg fx r (k + 1)))).1 - (onL fx r k (mx a (bg fx r k))).1) * _) * (onL fx r k p).2.2
        generalize mx a (bg fx r k) = u
        generalize mn b (bg fx r (k + 1)) = v
        unfold onL vec
        dsimp only
        generalize bg fx r (k + 1) - bg fx r k = l'
        grind
      · show (onL fx r k p).2.1 * (onL fx r k (mx a (bg fx r k))).2.2 * _ = ((onL fx r k (mx a (bg fx r k))).2.1 * _ + ((onL fx r k (mn b (bg fx r (k + 1)))).2.1 - (onL fx r k (mx a (bg fx r k))).2.1) * _) * (onL fx r k p).2.2
        generalize mx a (bg fx r k) = u
        generalize mn b (bg fx r (k + 1)) = v
        unfold onL vec
        dsimp only
        generalize bg fx r (k + 1) - bg fx r k = l'
        grind
    · have hp : p = b ∧ p = bg fx r k ∧ a < p := by
        unfold mx mn at hs
        split at hs <;> split at hs <;> omega
      obtain ⟨q1, q2, q3⟩ := hp
      have k1 : 1 ≤ k := by
        rcases Nat.eq_zero_or_pos k with z | z
        · exfalso
          subst z
          have : bg fx r 0 = 0 := rfl
          omega
        · exact z
      obtain ⟨j, rfl⟩ : ∃ j, k = j + 1 := ⟨k - 1, by omega⟩
      have lj := bg_lt h.st (show j + 1 < r.length by omega)
      have em : mn b (bg fx r (j + 1)) = bg fx r (j + 1) := by
        unfold mn
        split <;> omega
      have hs' : mx a (bg fx r j) < mn b (bg fx r (j + 1)) := by
        rw [em]
        unfold mx
        split <;> omega
      have ms : seg fx r a b j = [_] := if_pos (decide_eq_true hs')
      refine ⟨_, List.mem_map.mpr ⟨_, List.mem_flatMap.mpr ⟨j, List.mem_range.mpr (by omega), by rw [ms]; exact List.mem_singleton.mpr rfl⟩, rfl⟩, ⟨1, 1, by decide, by decide, by decide, ?_, ?_⟩⟩
      · show (onL fx r (j + 1) p).1 * (onL fx r j (mx a (bg fx r j))).2.2 * 1 = ((onL fx r j (mx a (bg fx r j))).1 * 1 + ((onL fx r j (mn b (bg fx r (j + 1)))).1 - (onL fx r j (mx a (bg fx r j))).1) * 1) * (onL fx r (j + 1) p).2.2
        rw [em, q2]
        unfold onL vec
        dsimp only
        generalize bg fx r (j + 1) - bg fx r j = l'
        generalize bg fx r (j + 1 + 1) - bg fx r (j + 1) = l2
        grind
      · show (onL fx r (j + 1) p).2.1 * (onL fx r j (mx a (bg fx r j))).2.2 * 1 = ((onL fx r j (mx a (bg fx r j))).2.1 * 1 + ((onL fx r j (mn b (bg fx r (j + 1)))).2.1 - (onL fx r j (mx a (bg fx r j))).2.1) * 1) * (onL fx r (j + 1) p).2.2
        rw [em, q2]
        unfold onL vec
        dsimp only
        generalize bg fx r (j + 1) - bg fx r j = l'
        generalize bg fx r (j + 1 + 1) - bg fx r (j + 1) = l2
        grind
end Law
set_option Elab.async false
set_option linter.all false
set_option maxRecDepth 100000
set_option maxHeartbeats 4100000
/-! GmA: two points of two segments nearer than a bound: the segments are; in plain Lean. -/
namespace Law
open PySem L2 Evl Sk MP M10
local macro_rules | `(tactic| walk_at "sc") => `(tactic| first | omega | assumption | trivial | (with_reducible exact mulOk) | (with_reducible exact smOk) | (with_reducible exact ⟨by decide, smOk⟩) | decide | rfl | (simp only [List.length_cons, List.length_nil]; decide) | exact divOk (by omega))
/-- a point of A B and one of C D are nearer than the root of q -/
structure PQ (A B C D : Pt) (q : Int) : Prop where
  ex : ∃ s m t n : Int, 0 ≤ s ∧ s ≤ m ∧ 0 < m ∧ 0 ≤ t ∧ t ≤ n ∧ 0 < n ∧
    (m * n * (A.1 - C.1) + n * s * (B.1 - A.1) - m * t * (D.1 - C.1)) * (m * n * (A.1 - C.1) + n * s * (B.1 - A.1) - m * t * (D.1 - C.1)) + (m * n * (A.2 - C.2) + n * s * (B.2 - A.2) - m * t * (D.2 - C.2)) * (m * n * (A.2 - C.2) + n * s * (B.2 - A.2) - m * t * (D.2 - C.2)) < m * n * (m * n) * q
theorem PQ.swap {A B C D : Pt} {q : Int} (h : PQ A B C D q) : PQ C D A B q := by
  obtain ⟨s, m, t, n, h1, h2, h3, h4, h5, h6, h7⟩ := h.ex
  refine ⟨t, n, s, m, h4, h5, h6, h1, h2, h3, ?_⟩
  have e1 : n * m * (C.1 - A.1) + m * t * (D.1 - C.1) - n * s * (B.1 - A.1) = -(m * n * (A.1 - C.1) + n * s * (B.1 - A.1) - m * t * (D.1 - C.1)) := by grind
  have e2 : n * m * (C.2 - A.2) + m * t * (D.2 - C.2) - n * s * (B.2 - A.2) = -(m * n * (A.2 - C.2) + n * s * (B.2 - A.2) - m * t * (D.2 - C.2)) := by grind
  rw [e1, e2, Int.neg_mul_neg, Int.neg_mul_neg, Int.mul_comm n m]
  exact h7
theorem PQ.turn {A B C D : Pt} {q : Int} (h : PQ A B C D q) : PQ B A C D q := by
  obtain ⟨s, m, t, n, h1, h2, h3, h4, h5, h6, h7⟩ := h.ex
  refine ⟨m - s, m, t, n, by omega, by omega, h3, h4, h5, h6, ?_⟩
  have e1 : m * n * (B.1 - C.1) + n * (m - s) * (A.1 - B.1) - m * t * (D.1 - C.1) = m * n * (A.1 - C.1) + n * s * (B.1 - A.1) - m * t * (D.1 - C.1) := by grind
  have e2 : m * n * (B.2 - C.2) + n * (m - s) * (A.2 - B.2) - m * t * (D.2 - C.2) = m * n * (A.2 - C.2) + n * s * (B.2 - A.2) - m * t * (D.2 - C.2) := by grind
  rw [e1, e2]
  exact h7
/-- an end is near -/
def EndNear (A B C D : Pt) (q : Int) : Prop := pcV A C D q = true ∨ pcV B C D q = true ∨ pcV C A B q = true ∨ pcV D A B q = true
theorem EndNear.swap {A B C D : Pt} {q : Int} (h : EndNear C D A B q) : EndNear A B C D q := by
  rcases h with h | h | h | h
  · exact .inr (.inr (.inl h))
  · exact .inr (.inr (.inr h))
  · exact .inl h
  · exact .inr (.inl h)
theorem EndNear.turn {A B C D : Pt} {q : Int} (h : EndNear B A C D q) : EndNear A B C D q := by
  rcases h with h | h | h | h
  · exact .inr (.inl h)
  · exact .inl h
  · exact .inr (.inr (.inl (by rw [← pc_swap]; exact h)))
  · exact .inr (.inr (.inr (by rw [← pc_swap]; exact h)))
theorem pq_pos {x y m q : Int} (h : x * x + y * y < m * q) (hm : 0 ≤ m) : 0 < q := by
  have a := sq_nn x
  have b := sq_nn y
  rcases Int.lt_or_le 0 q with z | z
  · exact z
  · have := Int.mul_nonpos_of_nonneg_of_nonpos hm z
    omega
/-- the scaled crossings: the line of A B meets that of C D behind A -/
def crs (A B C D : Pt) : Int := (B.1 - A.1) * (D.2 - C.2) - (B.2 - A.2) * (D.1 - C.1)
def uV (A B C D : Pt) : Int := ((C.1 - A.1) * (D.2 - C.2) - (C.2 - A.2) * (D.1 - C.1)) * crs A B C D
def vV (A B C D : Pt) : Int := ((C.1 - A.1) * (B.2 - A.2) - (C.2 - A.2) * (B.1 - A.1)) * crs A B C D
def wV (A B C D : Pt) : Int := crs A B C D * crs A B C D
theorem cramer (A B C D : Pt) : wV A B C D * (A.1 - C.1) + uV A B C D * (B.1 - A.1) - vV A B C D * (D.1 - C.1) = 0 ∧ wV A B C D * (A.2 - C.2) + uV A B C D * (B.2 - A.2) - vV A B C D * (D.2 - C.2) = 0 := by
  unfold wV uV vV crs
  constructor <;> grind
theorem uv_swap (A B C D : Pt) : uV C D A B = vV A B C D ∧ vV C D A B = uV A B C D ∧ wV C D A B = wV A B C D := by
  unfold wV uV vV crs
  refine ⟨?_, ?_, ?_⟩ <;> grind
theorem uv_turn (A B C D : Pt) : uV B A C D = wV A B C D - uV A B C D ∧ vV B A C D = vV A B C D ∧ wV B A C D = wV A B C D := by
  unfold wV uV vV crs
  refine ⟨?_, ?_, ?_⟩ <;> grind
theorem bnd {A B C D : Pt} {q s m t n U V c : Int} (h1 : 0 ≤ s) (h2 : s ≤ m) (h3 : 0 < m) (h4 : 0 ≤ t) (h5 : t ≤ n) (h6 : 0 < n) (hc : 0 < c) (hU : U ≤ 0) (hV : V ≤ c)
    (k1 : c * (A.1 - C.1) + U * (B.1 - A.1) - V * (D.1 - C.1) = 0) (k2 : c * (A.2 - C.2) + U * (B.2 - A.2) - V * (D.2 - C.2) = 0)
    (hT : 0 ≤ V * n * (c * s - U * m) - U * m * (c * t - V * n))
    (h7 : (m * n * (A.1 - C.1) + n * s * (B.1 - A.1) - m * t * (D.1 - C.1)) * (m * n * (A.1 - C.1) + n * s * (B.1 - A.1) - m * t * (D.1 - C.1)) + (m * n * (A.2 - C.2) + n * s * (B.2 - A.2) - m * t * (D.2 - C.2)) * (m * n * (A.2 - C.2) + n * s * (B.2 - A.2) - m * t * (D.2 - C.2)) < m * n * (m * n) * q) : pcV A C D q = true := by
  have hq : 0 < q := pq_pos h7 (Int.mul_nonneg (Int.le_of_lt (Int.mul_pos h3 h6)) (Int.le_of_lt (Int.mul_pos h3 h6)))
  have cs0 : 0 ≤ c * s := Int.mul_nonneg (Int.le_of_lt hc) h1
  have um0 : U * m ≤ 0 := Int.mul_nonpos_of_nonpos_of_nonneg hU (Int.le_of_lt h3)
  rcases Int.lt_or_le 0 (c * s - U * m) with hs | hs
  · generalize eσ : c * s - U * m = σ at hs hT
    generalize eτ : c * t - V * n = τ at hT
    have hN : 0 < n * c * σ := Int.mul_pos (Int.mul_pos h6 hc) hs
    have hle : V * n * σ - U * m * τ ≤ n * c * σ := by
      rcases Int.le_total 0 τ with z | z
      · have p1 : 0 ≤ c * s * τ := Int.mul_nonneg cs0 z
        have p2 : 0 ≤ σ * c * (n - t) := Int.mul_nonneg (Int.mul_nonneg (Int.le_of_lt hs) (Int.le_of_lt hc)) (by omega)
        have e : n * c * σ - (V * n * σ - U * m * τ) = σ * c * (n - t) + c * s * τ := by
          rw [← eσ, ← eτ]
          grind
        omega
      · have p1 : 0 ≤ U * m * τ := Int.mul_nonneg_of_nonpos_of_nonpos um0 z
        have p2 : 0 ≤ (c - V) * (n * σ) := Int.mul_nonneg (by omega) (Int.mul_nonneg (Int.le_of_lt h6) (Int.le_of_lt hs))
        have e : n * c * σ - (V * n * σ - U * m * τ) = (c - V) * (n * σ) + U * m * τ := by grind
        omega
    refine pc_on hT hle hN ?_
    have key : ∀ a b d1 d2 : Int, c * a + U * d1 - V * d2 = 0 → n * c * σ * a - (V * n * σ - U * m * τ) * d2 = -(U * c * (m * n * a + n * s * d1 - m * t * d2)) := fun a b d1 d2 z => by
      have e : c * a = V * d2 - U * d1 := by omega
      have e2 : n * c * σ * a = n * σ * (V * d2 - U * d1) := by rw [← e]; grind
      have e3 : U * c * (m * n * a + n * s * d1 - m * t * d2) = U * (m * n * (V * d2 - U * d1) + c * n * s * d1 - c * m * t * d2) := by rw [← e]; grind
      rw [e2, e3, ← eσ, ← eτ]
      grind
    rw [key _ 0 _ _ k1, key _ 0 _ _ k2, Int.neg_mul_neg, Int.neg_mul_neg]
    generalize m * n * (A.1 - C.1) + n * s * (B.1 - A.1) - m * t * (D.1 - C.1) = X at h7
    generalize m * n * (A.2 - C.2) + n * s * (B.2 - A.2) - m * t * (D.2 - C.2) = Y at h7
    have e1 : U * c * X * (U * c * X) + U * c * Y * (U * c * Y) = c * c * (U * U * (X * X + Y * Y)) := by grind
    have e2 : n * c * σ * (n * c * σ) * q = c * c * (n * n * (σ * σ) * q) := by grind
    rw [e1, e2]
    refine Int.mul_lt_mul_of_pos_left ?_ (Int.mul_pos hc hc)
    rcases Int.lt_or_le U 0 with hU' | hU'
    · have s1 := Int.mul_lt_mul_of_pos_left h7 (Int.mul_pos_of_neg_of_neg hU' hU')
      have s2 : U * m * (U * m) ≤ σ * σ := by
        have := sq_le_of (a := U * m) (b := σ) (by omega) (by omega)
        exact this
      have s3 : n * n * (U * m * (U * m)) * q ≤ n * n * (σ * σ) * q := Int.mul_le_mul_of_nonneg_right (Int.mul_le_mul_of_nonneg_left s2 (sq_nn n)) (Int.le_of_lt hq)
      have e3 : U * U * (m * n * (m * n) * q) = n * n * (U * m * (U * m)) * q := by grind
      omega
    · have e : U = 0 := by omega
      rw [e]
      have := Int.mul_pos (Int.mul_pos (Int.mul_pos h6 h6) (Int.mul_pos hs hs)) hq
      simp only [Int.zero_mul]
      omega
  · have z1 : c * s = 0 := by omega
    have z2 : s = 0 := by
      rcases Int.mul_eq_zero.mp z1 with z | z
      · omega
      · exact z
    subst z2
    refine pc_on h4 h5 h6 ?_
    have e1 : m * n * (A.1 - C.1) + n * 0 * (B.1 - A.1) - m * t * (D.1 - C.1) = m * (n * (A.1 - C.1) - t * (D.1 - C.1)) := by grind
    have e2 : m * n * (A.2 - C.2) + n * 0 * (B.2 - A.2) - m * t * (D.2 - C.2) = m * (n * (A.2 - C.2) - t * (D.2 - C.2)) := by grind
    rw [e1, e2] at h7
    generalize n * (A.1 - C.1) - t * (D.1 - C.1) = X at h7 ⊢
    generalize n * (A.2 - C.2) - t * (D.2 - C.2) = Y at h7 ⊢
    have e3 : m * X * (m * X) + m * Y * (m * Y) = m * m * (X * X + Y * Y) := by grind
    have e4 : m * n * (m * n) * q = m * m * (n * n * q) := by grind
    exact Int.lt_of_mul_lt_mul_left (a := m * m) (by omega) (Int.le_of_lt (Int.mul_pos h3 h3))
theorem near_lo {A B C D : Pt} {q : Int} (h : PQ A B C D q) (hc : 0 < wV A B C D) (hU : uV A B C D ≤ 0) (hV : vV A B C D ≤ wV A B C D) : EndNear A B C D q := by
  obtain ⟨s, m, t, n, h1, h2, h3, h4, h5, h6, h7⟩ := h.ex
  obtain ⟨k1, k2⟩ := cramer A B C D
  generalize uV A B C D = U at *
  generalize vV A B C D = V at *
  generalize wV A B C D = c at *
  rcases Int.lt_or_le (V * n * (c * s - U * m) - U * m * (c * t - V * n)) 0 with z | z
  · have e : V * n * (c * s - U * m) - U * m * (c * t - V * n) = V * n * (c * s) - U * m * (c * t) := by grind
    have hV0 : V ≤ 0 := by
      rcases Int.le_total V 0 with y | y
      · exact y
      · have p1 : 0 ≤ V * n * (c * s) := Int.mul_nonneg (Int.mul_nonneg y (Int.le_of_lt h6)) (Int.mul_nonneg (Int.le_of_lt hc) h1)
        have p2 : U * m * (c * t) ≤ 0 := Int.mul_nonpos_of_nonpos_of_nonneg (Int.mul_nonpos_of_nonpos_of_nonneg hU (Int.le_of_lt h3)) (Int.mul_nonneg (Int.le_of_lt hc) h4)
        omega
    have hT' : 0 ≤ U * m * (c * t - V * n) - V * n * (c * s - U * m) := by
      generalize V * n * (c * s - U * m) = a at z
      generalize U * m * (c * t - V * n) = b at z
      omega
    refine .inr (.inr (.inl (bnd (A := C) (B := D) (C := A) (D := B) h4 h5 h6 h1 h2 h3 hc hV0 (by omega) (by grind) (by grind) hT' ?_)))
    have e1 : n * m * (C.1 - A.1) + m * t * (D.1 - C.1) - n * s * (B.1 - A.1) = -(m * n * (A.1 - C.1) + n * s * (B.1 - A.1) - m * t * (D.1 - C.1)) := by grind
    have e2 : n * m * (C.2 - A.2) + m * t * (D.2 - C.2) - n * s * (B.2 - A.2) = -(m * n * (A.2 - C.2) + n * s * (B.2 - A.2) - m * t * (D.2 - C.2)) := by grind
    rw [e1, e2, Int.neg_mul_neg, Int.neg_mul_neg, Int.mul_comm n m]
    exact h7
  · exact .inl (bnd h1 h2 h3 h4 h5 h6 hc hU hV k1 k2 z h7)
theorem uv_turn2 (A B C D : Pt) : uV A B D C = uV A B C D ∧ vV A B D C = wV A B C D - vV A B C D ∧ wV A B D C = wV A B C D := by
  unfold wV uV vV crs
  refine ⟨?_, ?_, ?_⟩ <;> grind
theorem PQ.turn2 {A B C D : Pt} {q : Int} (h : PQ A B C D q) : PQ A B D C q := h.swap.turn.swap
theorem EndNear.turn2 {A B C D : Pt} {q : Int} (h : EndNear A B D C q) : EndNear A B C D q := h.swap.turn.swap
theorem near_u {A B C D : Pt} {q : Int} (h : PQ A B C D q) (hc : 0 < wV A B C D) (hU : uV A B C D ≤ 0) : EndNear A B C D q := by
  rcases Int.lt_or_le (wV A B C D) (vV A B C D) with z | z
  · obtain ⟨e1, e2, e3⟩ := uv_turn2 A B C D
    exact (near_lo h.turn2 (by omega) (by omega) (by omega)).turn2
  · exact near_lo h hc hU z
theorem near_u2 {A B C D : Pt} {q : Int} (h : PQ A B C D q) (hc : 0 < wV A B C D) (hU : uV A B C D ≤ 0 ∨ wV A B C D ≤ uV A B C D) : EndNear A B C D q := by
  rcases hU with z | z
  · exact near_u h hc z
  · obtain ⟨e1, e2, e3⟩ := uv_turn A B C D
    exact (near_u h.turn (by omega) (by omega)).turn
theorem sg_lt {x cr : Int} (h1 : 0 < x * cr) (h2 : x * cr < cr * cr) : x * (x - cr) < 0 := by
  rcases Int.lt_trichotomy cr 0 with z | z | z
  · have a : x < 0 := by
      rcases Int.lt_or_le x 0 with y | y
      · exact y
      · have := Int.mul_nonpos_of_nonneg_of_nonpos y (Int.le_of_lt z)
        omega
    have b : cr < x := by
      rcases Int.lt_or_le cr x with y | y
      · exact y
      · have := Int.mul_le_mul_of_nonpos_right y (Int.le_of_lt z)
        omega
    exact Int.mul_neg_of_neg_of_pos a (by omega)
  · rw [z] at h1
    simp at h1
  · have a : 0 < x := by
      rcases Int.lt_or_le 0 x with y | y
      · exact y
      · have := Int.mul_nonpos_of_nonpos_of_nonneg y (Int.le_of_lt z)
        omega
    have b : x < cr := by
      rcases Int.lt_or_le x cr with y | y
      · exact y
      · have := Int.mul_le_mul_of_nonneg_right y (Int.le_of_lt z)
        omega
    exact Int.mul_neg_of_pos_of_neg a (by omega)
theorem near_np {A B C D : Pt} {q : Int} (h : PQ A B C D q) (hc : 0 < wV A B C D) (hx : crB A B C D = false) : EndNear A B C D q := by
  rcases Int.lt_or_le 0 (uV A B C D) with a | a
  · rcases Int.lt_or_le (uV A B C D) (wV A B C D) with b | b
    · obtain ⟨e1, e2, e3⟩ := uv_swap A B C D
      rcases Int.lt_or_le 0 (vV A B C D) with c | c
      · rcases Int.lt_or_le (vV A B C D) (wV A B C D) with d | d
        · exfalso
          have f1 : crV C D A * crV C D B < 0 := by
            have g1 : uV A B C D = crV C D A * crs A B C D := by unfold uV crV; grind
            have g2 : crV C D B = crV C D A - crs A B C D := by unfold crs crV; grind
            rw [g2]
            exact sg_lt (by omega) (by unfold wV at b; omega)
          have f2 : crV A B C * crV A B D < 0 := by
            have g1 : vV A B C D = -(crV A B C) * crs A B C D := by unfold vV crV; grind
            have g2 : crV A B D = crV A B C + crs A B C D := by unfold crs crV; grind
            have := sg_lt (x := -(crV A B C)) (cr := crs A B C D) (by omega) (by unfold wV at d; omega)
            rw [g2]
            have e : crV A B C * (crV A B C + crs A B C D) = -(crV A B C) * (-(crV A B C) - crs A B C D) := by grind
            omega
          have : crB A B C D = true := by
            unfold crB
            rw [decide_eq_true f1, decide_eq_true f2]
            rfl
          rw [this] at hx
          cases hx
        · exact (near_u2 h.swap (by omega) (.inr (by omega))).swap
      · exact (near_u2 h.swap (by omega) (.inl (by omega))).swap
    · exact near_u2 h hc (.inr b)
  · exact near_u2 h hc (.inl a)
theorem near_pt {A B C D : Pt} {q : Int} (h : PQ A B C D q) (e1 : B.1 - A.1 = 0) (e2 : B.2 - A.2 = 0) : EndNear A B C D q := by
  obtain ⟨s, m, t, n, h1, h2, h3, h4, h5, h6, h7⟩ := h.ex
  refine .inl (pc_on h4 h5 h6 ?_)
  rw [e1, e2] at h7
  have f1 : m * n * (A.1 - C.1) + n * s * 0 - m * t * (D.1 - C.1) = m * (n * (A.1 - C.1) - t * (D.1 - C.1)) := by grind
  have f2 : m * n * (A.2 - C.2) + n * s * 0 - m * t * (D.2 - C.2) = m * (n * (A.2 - C.2) - t * (D.2 - C.2)) := by grind
  rw [f1, f2] at h7
  generalize n * (A.1 - C.1) - t * (D.1 - C.1) = X at h7 ⊢
  generalize n * (A.2 - C.2) - t * (D.2 - C.2) = Y at h7 ⊢
  have e3 : m * X * (m * X) + m * Y * (m * Y) = m * m * (X * X + Y * Y) := by grind
  have e4 : m * n * (m * n) * q = m * m * (n * n * q) := by grind
  exact Int.lt_of_mul_lt_mul_left (a := m * m) (by omega) (Int.le_of_lt (Int.mul_pos h3 h3))
/-- alike directions -/
theorem near_al {A B C D : Pt} {q : Int} (h : PQ A B C D q) (hc : crs A B C D = 0) (hd : 0 < (D.1 - C.1) * (D.1 - C.1) + (D.2 - C.2) * (D.2 - C.2)) (hg : 0 < (B.1 - A.1) * (D.1 - C.1) + (B.2 - A.2) * (D.2 - C.2)) : EndNear A B C D q := by
  obtain ⟨s, m, t, n, h1, h2, h3, h4, h5, h6, h7⟩ := h.ex
  unfold crs at hc
  have k1 : ((D.1 - C.1) * (D.1 - C.1) + (D.2 - C.2) * (D.2 - C.2)) * (B.1 - A.1) = ((B.1 - A.1) * (D.1 - C.1) + (B.2 - A.2) * (D.2 - C.2)) * (D.1 - C.1) := by grind
  have k2 : ((D.1 - C.1) * (D.1 - C.1) + (D.2 - C.2) * (D.2 - C.2)) * (B.2 - A.2) = ((B.1 - A.1) * (D.1 - C.1) + (B.2 - A.2) * (D.2 - C.2)) * (D.2 - C.2) := by grind
  generalize (D.1 - C.1) * (D.1 - C.1) + (D.2 - C.2) * (D.2 - C.2) = d at hd k1 k2
  generalize (B.1 - A.1) * (D.1 - C.1) + (B.2 - A.2) * (D.2 - C.2) = g at hg k1 k2
  rcases Int.lt_or_le (n * d * m) (t * d * m + g * (m - s) * n) with z | z
  · refine .inr (.inr (.inr (pc_on (t := s * g * n + d * (n - t) * m) (m := m * g * n) ?_ ?_ (Int.mul_pos (Int.mul_pos h3 hg) h6) ?_)))
    · exact Int.add_nonneg (Int.mul_nonneg (Int.mul_nonneg h1 (Int.le_of_lt hg)) (Int.le_of_lt h6)) (Int.mul_nonneg (Int.mul_nonneg (Int.le_of_lt hd) (by omega)) (Int.le_of_lt h3))
    · have e : m * g * n - (s * g * n + d * (n - t) * m) = (t * d * m + g * (m - s) * n) - n * d * m := by grind
      omega
    · have key : ∀ a b b2 x : Int, d * b = g * b2 → m * g * n * (a + b2) - (s * g * n + d * (n - t) * m) * b = -(g * (m * n * (-a) + n * s * b - m * t * b2)) := fun a b b2 x e => by
        have e2 : (s * g * n + d * (n - t) * m) * b = s * g * n * b + (n - t) * m * (g * b2) := by rw [← e]; grind
        rw [e2]
        grind
      have r1 := key (C.1 - A.1) (B.1 - A.1) (D.1 - C.1) 0 k1
      have r2 := key (C.2 - A.2) (B.2 - A.2) (D.2 - C.2) 0 k2
      rw [show C.1 - A.1 + (D.1 - C.1) = D.1 - A.1 by omega, show -(C.1 - A.1) = A.1 - C.1 by omega] at r1
      rw [show C.2 - A.2 + (D.2 - C.2) = D.2 - A.2 by omega, show -(C.2 - A.2) = A.2 - C.2 by omega] at r2
      rw [r1, r2, Int.neg_mul_neg, Int.neg_mul_neg]
      generalize m * n * (A.1 - C.1) + n * s * (B.1 - A.1) - m * t * (D.1 - C.1) = X at h7
      generalize m * n * (A.2 - C.2) + n * s * (B.2 - A.2) - m * t * (D.2 - C.2) = Y at h7
      have e1 : g * X * (g * X) + g * Y * (g * Y) = g * g * (X * X + Y * Y) := by grind
      have e2 : m * g * n * (m * g * n) * q = g * g * (m * n * (m * n) * q) := by grind
      rw [e1, e2]
      exact Int.mul_lt_mul_of_pos_left h7 (Int.mul_pos hg hg)
  · refine .inr (.inl (pc_on (t := t * d * m + g * (m - s) * n) (m := n * d * m) ?_ z (Int.mul_pos (Int.mul_pos h6 hd) h3) ?_))
    · exact Int.add_nonneg (Int.mul_nonneg (Int.mul_nonneg h4 (Int.le_of_lt hd)) (Int.le_of_lt h3)) (Int.mul_nonneg (Int.mul_nonneg (Int.le_of_lt hg) (by omega)) (Int.le_of_lt h6))
    · have key : ∀ a b b2 : Int, d * b = g * b2 → n * d * m * (a + b) - (t * d * m + g * (m - s) * n) * b2 = d * (m * n * a + n * s * b - m * t * b2) := fun a b b2 e => by
        have e2 : (t * d * m + g * (m - s) * n) * b2 = t * d * m * b2 + (m - s) * n * (d * b) := by rw [e]; grind
        rw [e2]
        grind
      have r1 := key (A.1 - C.1) (B.1 - A.1) (D.1 - C.1) k1
      have r2 := key (A.2 - C.2) (B.2 - A.2) (D.2 - C.2) k2
      rw [show A.1 - C.1 + (B.1 - A.1) = B.1 - C.1 by omega] at r1
      rw [show A.2 - C.2 + (B.2 - A.2) = B.2 - C.2 by omega] at r2
      rw [r1, r2]
      generalize m * n * (A.1 - C.1) + n * s * (B.1 - A.1) - m * t * (D.1 - C.1) = X at h7
      generalize m * n * (A.2 - C.2) + n * s * (B.2 - A.2) - m * t * (D.2 - C.2) = Y at h7
      have e1 : d * X * (d * X) + d * Y * (d * Y) = d * d * (X * X + Y * Y) := by grind
      have e2 : n * d * m * (n * d * m) * q = d * d * (m * n * (m * n) * q) := by grind
      rw [e1, e2]
      exact Int.mul_lt_mul_of_pos_left h7 (Int.mul_pos hd hd)
theorem sq_zero {a b : Int} (h : a * a + b * b ≤ 0) : a = 0 ∧ b = 0 := by
  have h1 := sq_nn a
  have h2 := sq_nn b
  have e1 : a * a = 0 := by omega
  have e2 : b * b = 0 := by omega
  exact ⟨(Int.mul_eq_zero.mp e1).elim id id, (Int.mul_eq_zero.mp e2).elim id id⟩
theorem near_par {A B C D : Pt} {q : Int} (h : PQ A B C D q) (hc : crs A B C D = 0) : EndNear A B C D q := by
  rcases Int.lt_or_le 0 ((B.1 - A.1) * (B.1 - A.1) + (B.2 - A.2) * (B.2 - A.2)) with a | a
  · rcases Int.lt_or_le 0 ((D.1 - C.1) * (D.1 - C.1) + (D.2 - C.2) * (D.2 - C.2)) with b | b
    · rcases Int.lt_trichotomy 0 ((B.1 - A.1) * (D.1 - C.1) + (B.2 - A.2) * (D.2 - C.2)) with c | c | c
      · exact near_al h hc b c
      · exfalso
        have p := Int.mul_pos a b
        have e : ((B.1 - A.1) * (B.1 - A.1) + (B.2 - A.2) * (B.2 - A.2)) * ((D.1 - C.1) * (D.1 - C.1) + (D.2 - C.2) * (D.2 - C.2)) = ((B.1 - A.1) * (D.1 - C.1) + (B.2 - A.2) * (D.2 - C.2)) * ((B.1 - A.1) * (D.1 - C.1) + (B.2 - A.2) * (D.2 - C.2)) + crs A B C D * crs A B C D := by unfold crs; grind
        rw [hc, ← c] at e
        simp only [Int.mul_zero, Int.add_zero] at e
        omega
      · refine (near_al h.turn ?_ b ?_).turn
        · have e : crs B A C D = -(crs A B C D) := by unfold crs; grind
          omega
        · have e : (A.1 - B.1) * (D.1 - C.1) + (A.2 - B.2) * (D.2 - C.2) = -((B.1 - A.1) * (D.1 - C.1) + (B.2 - A.2) * (D.2 - C.2)) := by grind
          omega
    · obtain ⟨e1, e2⟩ := sq_zero b
      exact (near_pt h.swap e1 e2).swap
  · obtain ⟨e1, e2⟩ := sq_zero a
    exact near_pt h e1 e2
theorem near_end {A B C D : Pt} {q : Int} (h : PQ A B C D q) (hx : crB A B C D = false) : EndNear A B C D q := by
  by_cases z : crs A B C D = 0
  · exact near_par h z
  · exact near_np h (sq_pos z) hx
/-- points of two segments are nearer than l: the segments are -/
theorem lc_near {x y : Sg} {l X1 Y1 n1 X2 Y2 n2 : Int} (hx : 1 ≤ x.2.2.2.2) (hy : 1 ≤ y.2.2.2.2) (k1 : 0 < n1) (k2 : 0 < n2) (o1 : OnSg x X1 Y1 n1) (o2 : OnSg y X2 Y2 n2)
    (h : (X1 * n2 - X2 * n1) * (X1 * n2 - X2 * n1) + (Y1 * n2 - Y2 * n1) * (Y1 * n2 - Y2 * n1) < l * (n1 * n2) * (l * (n1 * n2))) : lcV x y l = true := by
  have key : PQ (sA x y) (sB x y) (sA y x) (sB y x) (lqV x y l) := by
    obtain ⟨t1, m1, a1, a2, a3, e1, e2⟩ := o1.ex
    obtain ⟨t2, m2, b1, b2, b3, f1, f2⟩ := o2.ex
    refine ⟨t1, m1, t2, m2, a1, a2, a3, b1, b2, b3, ?_⟩
    unfold sA sB lqV
    dsimp only
    generalize x.2.2.2.2 = d1 at *
    generalize y.2.2.2.2 = d2 at *
    have g1 : n1 * n2 * (m1 * m2 * (x.1 * d2 - y.1 * d1) + m2 * t1 * (x.2.2.1 * d2 - x.1 * d2) - m1 * t2 * (y.2.2.1 * d1 - y.1 * d1)) = m1 * m2 * d1 * d2 * (X1 * n2 - X2 * n1) := by
      have z1 : m1 * m2 * d1 * d2 * (X1 * n2 - X2 * n1) = m2 * d2 * n2 * (X1 * d1 * m1) - m1 * d1 * n1 * (X2 * d2 * m2) := by grind
      rw [z1, e1, f1]
      grind
    have g2 : n1 * n2 * (m1 * m2 * (x.2.1 * d2 - y.2.1 * d1) + m2 * t1 * (x.2.2.2.1 * d2 - x.2.1 * d2) - m1 * t2 * (y.2.2.2.1 * d1 - y.2.1 * d1)) = m1 * m2 * d1 * d2 * (Y1 * n2 - Y2 * n1) := by
      have z1 : m1 * m2 * d1 * d2 * (Y1 * n2 - Y2 * n1) = m2 * d2 * n2 * (Y1 * d1 * m1) - m1 * d1 * n1 * (Y2 * d2 * m2) := by grind
      rw [z1, e2, f2]
      grind
    generalize m1 * m2 * (x.1 * d2 - y.1 * d1) + m2 * t1 * (x.2.2.1 * d2 - x.1 * d2) - m1 * t2 * (y.2.2.1 * d1 - y.1 * d1) = u at g1 ⊢
    generalize m1 * m2 * (x.2.1 * d2 - y.2.1 * d1) + m2 * t1 * (x.2.2.2.1 * d2 - x.2.1 * d2) - m1 * t2 * (y.2.2.2.1 * d1 - y.2.1 * d1) = v at g2 ⊢
    generalize X1 * n2 - X2 * n1 = X at g1 h
    generalize Y1 * n2 - Y2 * n1 = Y at g2 h
    have hn : 0 < n1 * n2 := Int.mul_pos k1 k2
    have hm : 0 < m1 * m2 * d1 * d2 := Int.mul_pos (Int.mul_pos (Int.mul_pos a3 b3) (by omega)) (by omega)
    have g : n1 * n2 * (n1 * n2) * (u * u + v * v) = m1 * m2 * d1 * d2 * (m1 * m2 * d1 * d2) * (X * X + Y * Y) := by
      have z1 : n1 * n2 * (n1 * n2) * (u * u + v * v) = (n1 * n2 * u) * (n1 * n2 * u) + (n1 * n2 * v) * (n1 * n2 * v) := by grind
      rw [z1, g1, g2]
      grind
    have s1 := Int.mul_lt_mul_of_pos_left h (Int.mul_pos hm hm)
    have z2 : m1 * m2 * d1 * d2 * (m1 * m2 * d1 * d2) * (l * (n1 * n2) * (l * (n1 * n2))) = n1 * n2 * (n1 * n2) * (m1 * m2 * (m1 * m2) * (l * l * d1 * d1 * d2 * d2)) := by grind
    exact Int.lt_of_mul_lt_mul_left (a := n1 * n2 * (n1 * n2)) (by omega) (Int.le_of_lt (Int.mul_pos hn hn))
  unfold lcV
  cases hc : crB (sA x y) (sB x y) (sA y x) (sB y x) with
  | true =>
    have hl : 0 < lqV x y l := by
      obtain ⟨s, m, t, n, h1, h2, h3, h4, h5, h6, h7⟩ := key.ex
      exact pq_pos h7 (Int.mul_nonneg (Int.le_of_lt (Int.mul_pos h3 h6)) (Int.le_of_lt (Int.mul_pos h3 h6)))
    rw [decide_eq_true hl]
    simp
  | false =>
    rcases near_end key hc with z | z | z | z <;> rw [z] <;> simp
end Law
set_option Elab.async false
set_option linter.all false
set_option maxRecDepth 100000
set_option maxHeartbeats 4100000
/-! PrP: pieces of boxes that grow; in plain Lean (k17). -/
namespace Law
open PySem L2 Evl Sk MP M10
theorem pc_ex {p a b : Pt} {q : Int} (h : pcV p a b q = true) : ∃ t m : Int, 0 ≤ t ∧ t ≤ m ∧ 0 < m ∧ (m * (p.1 - a.1) - t * (b.1 - a.1)) * (m * (p.1 - a.1) - t * (b.1 - a.1)) + (m * (p.2 - a.2) - t * (b.2 - a.2)) * (m * (p.2 - a.2) - t * (b.2 - a.2)) < m * m * q := by
  unfold pcV dtV crV at h
  generalize hw1 : p.1 - a.1 = w1 at h ⊢
  generalize hw2 : p.2 - a.2 = w2 at h ⊢
  generalize hd1 : b.1 - a.1 = d1 at h ⊢
  generalize hd2 : b.2 - a.2 = d2 at h ⊢
  have e1 : p.1 - b.1 = w1 - d1 := by omega
  have e2 : p.2 - b.2 = w2 - d2 := by omega
  rw [e1, e2] at h
  split at h
  · have h := of_decide_eq_true h
    refine ⟨0, 1, by decide, by decide, by decide, ?_⟩
    have e : (1 * w1 - 0 * d1) * (1 * w1 - 0 * d1) + (1 * w2 - 0 * d2) * (1 * w2 - 0 * d2) = w1 * w1 + w2 * w2 := by grind
    omega
  · split at h
    · have h := of_decide_eq_true h
      refine ⟨1, 1, by decide, by decide, by decide, ?_⟩
      have e : (1 * w1 - 1 * d1) * (1 * w1 - 1 * d1) + (1 * w2 - 1 * d2) * (1 * w2 - 1 * d2) = (w1 - d1) * (w1 - d1) + (w2 - d2) * (w2 - d2) := by grind
      omega
    · rename_i c1 c2
      have h := of_decide_eq_true h
      refine ⟨d1 * w1 + d2 * w2, d1 * d1 + d2 * d2, by omega, by omega, by omega, ?_⟩
      have e : ((d1 * d1 + d2 * d2) * w1 - (d1 * w1 + d2 * w2) * d1) * ((d1 * d1 + d2 * d2) * w1 - (d1 * w1 + d2 * w2) * d1) + ((d1 * d1 + d2 * d2) * w2 - (d1 * w1 + d2 * w2) * d2) * ((d1 * d1 + d2 * d2) * w2 - (d1 * w1 + d2 * w2) * d2) = (d1 * d1 + d2 * d2) * ((d1 * w2 - d2 * w1) * (d1 * w2 - d2 * w1)) := by grind
      have s := Int.mul_lt_mul_of_pos_left h (show 0 < d1 * d1 + d2 * d2 by omega)
      have e3 : (d1 * d1 + d2 * d2) * (q * (d1 * d1 + d2 * d2)) = (d1 * d1 + d2 * d2) * (d1 * d1 + d2 * d2) * q := by grind
      omega
theorem pq_pc {A B C D : Pt} {q : Int} (h : pcV A C D q = true) : PQ A B C D q := by
  obtain ⟨t, m, h0, h1, hm, hq⟩ := pc_ex h
  refine ⟨0, 1, t, m, by decide, by decide, by decide, h0, h1, hm, ?_⟩
  have e1 : 1 * m * (A.1 - C.1) + m * 0 * (B.1 - A.1) - 1 * t * (D.1 - C.1) = m * (A.1 - C.1) - t * (D.1 - C.1) := by grind
  have e2 : 1 * m * (A.2 - C.2) + m * 0 * (B.2 - A.2) - 1 * t * (D.2 - C.2) = m * (A.2 - C.2) - t * (D.2 - C.2) := by grind
  rw [e1, e2, Int.one_mul]
  exact hq
theorem pq_cr {A B C D : Pt} {q : Int} (hq : 0 < q) (h : crB A B C D = true) : PQ A B C D q := by
  unfold crB at h
  rw [Bool.and_eq_true, decide_eq_true_eq, decide_eq_true_eq] at h
  obtain ⟨hg, hf⟩ := h
  have key : ∀ s m t n : Int, 0 ≤ s → s ≤ m → 0 < m → 0 ≤ t → t ≤ n → 0 < n → m * n * (A.1 - C.1) + n * s * (B.1 - A.1) - m * t * (D.1 - C.1) = 0 → m * n * (A.2 - C.2) + n * s * (B.2 - A.2) - m * t * (D.2 - C.2) = 0 → PQ A B C D q := fun s m t n h1 h2 h3 h4 h5 h6 e1 e2 => ⟨s, m, t, n, h1, h2, h3, h4, h5, h6, by
    rw [e1, e2]
    have := Int.mul_pos (Int.mul_pos (Int.mul_pos h3 h6) (Int.mul_pos h3 h6)) hq
    omega⟩
  have sg : ∀ {a b : Int}, a * b < 0 → (0 < a ∧ b < 0) ∨ (a < 0 ∧ 0 < b) := fun {a b} h => by
    rcases Int.lt_trichotomy a 0 with z | z | z
    · refine .inr ⟨z, ?_⟩
      rcases Int.lt_or_le 0 b with y | y
      · exact y
      · have := Int.mul_nonneg_of_nonpos_of_nonpos (Int.le_of_lt z) y
        omega
    · rw [z, Int.zero_mul] at h
      omega
    · refine .inl ⟨z, ?_⟩
      rcases Int.lt_or_le b 0 with y | y
      · exact y
      · have := Int.mul_nonneg (Int.le_of_lt z) y
        omega
  have f := sg hf
  have g := sg hg
  generalize ef1 : crV C D A = f1 at f
  generalize ef2 : crV C D B = f2 at f
  generalize eg1 : crV A B C = g1 at g
  generalize eg2 : crV A B D = g2 at g
  unfold crV at ef1 ef2 eg1 eg2
  rcases f with ⟨a1, a2⟩ | ⟨a1, a2⟩ <;> rcases g with ⟨b1, b2⟩ | ⟨b1, b2⟩
  · exact key f1 (f1 - f2) g1 (g1 - g2) (by omega) (by omega) (by omega) (by omega) (by omega) (by omega) (by rw [← ef1, ← ef2, ← eg1, ← eg2]; grind) (by rw [← ef1, ← ef2, ← eg1, ← eg2]; grind)
  · exact key f1 (f1 - f2) (-g1) (g2 - g1) (by omega) (by omega) (by omega) (by omega) (by omega) (by omega) (by rw [← ef1, ← ef2, ← eg1, ← eg2]; grind) (by rw [← ef1, ← ef2, ← eg1, ← eg2]; grind)
  · exact key (-f1) (f2 - f1) g1 (g1 - g2) (by omega) (by omega) (by omega) (by omega) (by omega) (by omega) (by rw [← ef1, ← ef2, ← eg1, ← eg2]; grind) (by rw [← ef1, ← ef2, ← eg1, ← eg2]; grind)
  · exact key (-f1) (f2 - f1) (-g1) (g2 - g1) (by omega) (by omega) (by omega) (by omega) (by omega) (by omega) (by rw [← ef1, ← ef2, ← eg1, ← eg2]; grind) (by rw [← ef1, ← ef2, ← eg1, ← eg2]; grind)
/-- segments nearer than l have points nearer than l -/
theorem lc_pq {x y : Sg} {l : Int} (h : lcV x y l = true) : PQ (sA x y) (sB x y) (sA y x) (sB y x) (lqV x y l) := by
  unfold lcV at h
  simp only [Bool.or_eq_true, Bool.and_eq_true, decide_eq_true_eq] at h
  rcases h with ⟨h1, h2⟩ | (h | h) | h | h
  · exact pq_cr h1 h2
  · exact pq_pc h
  · exact (pq_pc h : PQ (sB x y) (sA x y) (sA y x) (sB y x) (lqV x y l)).turn
  · exact (pq_pc h : PQ (sA y x) (sB y x) (sA x y) (sB x y) (lqV x y l)).swap
  · exact (pq_pc h : PQ (sB y x) (sA y x) (sA x y) (sB x y) (lqV x y l)).turn.swap
theorem lc_pts {x y : Sg} {l : Int} (h : lcV x y l = true) : ∃ s m t n : Int, 0 ≤ s ∧ s ≤ m ∧ 0 < m ∧ 0 ≤ t ∧ t ≤ n ∧ 0 < n ∧
    ((x.1 * m + (x.2.2.1 - x.1) * s) * (y.2.2.2.2 * n) - (y.1 * n + (y.2.2.1 - y.1) * t) * (x.2.2.2.2 * m)) * ((x.1 * m + (x.2.2.1 - x.1) * s) * (y.2.2.2.2 * n) - (y.1 * n + (y.2.2.1 - y.1) * t) * (x.2.2.2.2 * m)) + ((x.2.1 * m + (x.2.2.2.1 - x.2.1) * s) * (y.2.2.2.2 * n) - (y.2.1 * n + (y.2.2.2.1 - y.2.1) * t) * (x.2.2.2.2 * m)) * ((x.2.1 * m + (x.2.2.2.1 - x.2.1) * s) * (y.2.2.2.2 * n) - (y.2.1 * n + (y.2.2.2.1 - y.2.1) * t) * (x.2.2.2.2 * m)) < l * (x.2.2.2.2 * m * (y.2.2.2.2 * n)) * (l * (x.2.2.2.2 * m * (y.2.2.2.2 * n))) := by
  obtain ⟨s, m, t, n, h1, h2, h3, h4, h5, h6, h7⟩ := (lc_pq h).ex
  refine ⟨s, m, t, n, h1, h2, h3, h4, h5, h6, ?_⟩
  unfold sA sB lqV at h7
  dsimp only at h7
  generalize x.2.2.2.2 = dx at *
  generalize y.2.2.2.2 = dy at *
  have e1 : (x.1 * m + (x.2.2.1 - x.1) * s) * (dy * n) - (y.1 * n + (y.2.2.1 - y.1) * t) * (dx * m) = m * n * (x.1 * dy - y.1 * dx) + n * s * (x.2.2.1 * dy - x.1 * dy) - m * t * (y.2.2.1 * dx - y.1 * dx) := by grind
  have e2 : (x.2.1 * m + (x.2.2.2.1 - x.2.1) * s) * (dy * n) - (y.2.1 * n + (y.2.2.2.1 - y.2.1) * t) * (dx * m) = m * n * (x.2.1 * dy - y.2.1 * dx) + n * s * (x.2.2.2.1 * dy - x.2.1 * dy) - m * t * (y.2.2.2.1 * dx - y.2.1 * dx) := by grind
  have e3 : l * (dx * m * (dy * n)) * (l * (dx * m * (dy * n))) = m * n * (m * n) * (l * l * dx * dx * dy * dy) := by grind
  rw [e1, e2, e3]
  exact h7
theorem tri_le2 {A B a b P Q : Int} (hP : 0 ≤ P) (hQ : 0 ≤ Q) (h1 : A * A + B * B ≤ P * P) (h2 : a * a + b * b ≤ Q * Q) : (A + a) * (A + a) + (B + b) * (B + b) ≤ (P + Q) * (P + Q) := by
  have e1 : (A * a + B * b) * (A * a + B * b) + (A * b - B * a) * (A * b - B * a) = (A * A + B * B) * (a * a + b * b) := by grind
  have z := sq_nn (A * b - B * a)
  have p3 := sq_nn a
  have p4 := sq_nn b
  have e2 : (A * A + B * B) * (a * a + b * b) ≤ (P * P) * (Q * Q) := Int.mul_le_mul h1 h2 (by omega) (sq_nn P)
  have e3 : (P * P) * (Q * Q) = (P * Q) * (P * Q) := by grind
  obtain ⟨c1, c2⟩ := sq_abs (a := A * a + B * b) (Int.mul_nonneg hP hQ) (by omega)
  have e4 : (A + a) * (A + a) + (B + b) * (B + b) = (A * A + B * B) + (a * a + b * b) + 2 * (A * a + B * b) := by grind
  have e5 : (P + Q) * (P + Q) = P * P + Q * Q + 2 * (P * Q) := by grind
  omega
theorem tri_lt2 {A B a b P Q : Int} (hP : 0 ≤ P) (hQ : 0 ≤ Q) (h1 : A * A + B * B < P * P) (h2 : a * a + b * b ≤ Q * Q) : (A + a) * (A + a) + (B + b) * (B + b) < (P + Q) * (P + Q) := by
  have := tri_lt (a := -a) (b := -b) hP hQ h1 (by rw [Int.neg_mul_neg, Int.neg_mul_neg]; exact h2)
  rw [Int.sub_neg, Int.sub_neg] at this
  exact this
/-- a leg is as long as its number says, at most -/
theorem vec_le {fx : Fx} {r : List Str} (k : Nat) : (vec fx r k).1 * (vec fx r k).1 + (vec fx r k).2.1 * (vec fx r k).2.1 ≤ (vec fx r k).2.2 * (vec fx r k).2.2 := by
  have e : (vec fx r k).2.2 = ln fx (at_ r k) (at_ r (k + 1)) := by
    show bg fx r k + ln fx (at_ r k) (at_ r (k + 1)) - bg fx r k = _
    omega
  rw [e]
  exact (up_ok (d2_nn (pt fx (at_ r k)) (pt fx (at_ r (k + 1))))).2.1
theorem fix_le {fx : Fx} {r : List Str} (i : Nat) : ∀ (d : Nat), ((pt fx (at_ r (i + d))).1 - (pt fx (at_ r i)).1) * ((pt fx (at_ r (i + d))).1 - (pt fx (at_ r i)).1) + ((pt fx (at_ r (i + d))).2 - (pt fx (at_ r i)).2) * ((pt fx (at_ r (i + d))).2 - (pt fx (at_ r i)).2) ≤ (bg fx r (i + d) - bg fx r i) * (bg fx r (i + d) - bg fx r i)
  | 0 => by
    rw [Nat.add_zero, Int.sub_self, Int.sub_self, Int.sub_self]
    decide
  | d + 1 => by
    have ih := fix_le (fx := fx) (r := r) i d
    have v := vec_le (fx := fx) (r := r) (i + d)
    have m1 := bg_mono fx r (show i ≤ i + d by omega)
    have m2 := bg_mono fx r (show i + d ≤ i + d + 1 by omega)
    have := tri_le2 (by omega) (by show 0 ≤ bg fx r (i + d + 1) - bg fx r (i + d); omega) ih v
    have e1 : (pt fx (at_ r (i + d))).1 - (pt fx (at_ r i)).1 + (vec fx r (i + d)).1 = (pt fx (at_ r (i + (d + 1)))).1 - (pt fx (at_ r i)).1 := by
      show _ + ((pt fx (at_ r (i + d + 1))).1 - (pt fx (at_ r (i + d))).1) = _
      rw [show i + (d + 1) = i + d + 1 by omega]
      omega
    have e2 : (pt fx (at_ r (i + d))).2 - (pt fx (at_ r i)).2 + (vec fx r (i + d)).2.1 = (pt fx (at_ r (i + (d + 1)))).2 - (pt fx (at_ r i)).2 := by
      show _ + ((pt fx (at_ r (i + d + 1))).2 - (pt fx (at_ r (i + d))).2) = _
      rw [show i + (d + 1) = i + d + 1 by omega]
      omega
    have e3 : bg fx r (i + d) - bg fx r i + (vec fx r (i + d)).2.2 = bg fx r (i + (d + 1)) - bg fx r i := by
      show _ + (bg fx r (i + d + 1) - bg fx r (i + d)) = _
      rw [show i + (d + 1) = i + d + 1 by omega]
      omega
    rw [e1, e2, e3] at this
    exact this
/-- the place at the progress U / m on leg k, times the leg's length and m -/
def plX (fx : Fx) (r : List Str) (k : Nat) (U m : Int) : Int := (pt fx (at_ r k)).1 * ((vec fx r k).2.2 * m) + (vec fx r k).1 * (U - bg fx r k * m)
def plY (fx : Fx) (r : List Str) (k : Nat) (U m : Int) : Int := (pt fx (at_ r k)).2 * ((vec fx r k).2.2 * m) + (vec fx r k).2.1 * (U - bg fx r k * m)
/-- U / m is on leg k -/
structure OnK (fx : Fx) (r : List Str) (k : Nat) (U m : Int) : Prop where
  lt : k + 1 < r.length
  lo : bg fx r k * m ≤ U
  hi : U ≤ bg fx r (k + 1) * m
theorem sq_le {a b c d : Int} (h0 : 0 ≤ b) (h : a ≤ b) (hn : 0 ≤ a) (hd : 0 ≤ d) (h2 : c ≤ d) (hc : 0 ≤ c) : c * (a * a) ≤ d * (b * b) := Int.mul_le_mul h2 (Int.mul_le_mul h h hn h0) (Int.mul_nonneg hn hn) hd
/-- a place further on lies no further away than the progress tells -/
theorem place_lip {fx : Fx} {r : List Str} {k j : Nat} {U m p J : Int} (hm : 0 < m) (hk : OnK fx r k U m) (hj : bg fx r j ≤ p ∧ p ≤ bg fx r (j + 1)) (hjk : j ≤ k) (hp : p * m ≤ U) (hJ : U ≤ (p + J) * m) :
    (plX fx r k U m * (onL fx r j p).2.2 - (onL fx r j p).1 * ((vec fx r k).2.2 * m)) * (plX fx r k U m * (onL fx r j p).2.2 - (onL fx r j p).1 * ((vec fx r k).2.2 * m)) + (plY fx r k U m * (onL fx r j p).2.2 - (onL fx r j p).2.1 * ((vec fx r k).2.2 * m)) * (plY fx r k U m * (onL fx r j p).2.2 - (onL fx r j p).2.1 * ((vec fx r k).2.2 * m)) ≤ ((vec fx r k).2.2 * m * (onL fx r j p).2.2 * J) * ((vec fx r k).2.2 * m * (onL fx r j p).2.2 * J) := by
  have v := vec_le (fx := fx) (r := r) k
  have v' := vec_le (fx := fx) (r := r) j
  have b1 := hk.lo
  have hL : 0 ≤ (vec fx r k).2.2 := by
    have := bg_mono fx r (show k ≤ k + 1 by omega)
    show 0 ≤ bg fx r (k + 1) - bg fx r k
    omega
  have hL' : 0 ≤ (vec fx r j).2.2 := by
    have := bg_mono fx r (show j ≤ j + 1 by omega)
    show 0 ≤ bg fx r (j + 1) - bg fx r j
    omega
  have hJ' : U - p * m ≤ J * m := by
    have : (p + J) * m = p * m + J * m := by grind
    omega
  rcases Nat.eq_or_lt_of_le hjk with e | lt
  · subst e
    unfold plX plY onL
    dsimp only
    generalize (vec fx r j).2.2 = L at *
    generalize (vec fx r j).1 = vx at *
    generalize (vec fx r j).2.1 = vy at *
    generalize bg fx r j = b at *
    have e1 : ((pt fx (at_ r j)).1 * (L * m) + vx * (U - b * m)) * L - ((pt fx (at_ r j)).1 * L + vx * (p - b)) * (L * m) = L * vx * (U - p * m) := by grind
    have e2 : ((pt fx (at_ r j)).2 * (L * m) + vy * (U - b * m)) * L - ((pt fx (at_ r j)).2 * L + vy * (p - b)) * (L * m) = L * vy * (U - p * m) := by grind
    rw [e1, e2]
    have e3 : L * vx * (U - p * m) * (L * vx * (U - p * m)) + L * vy * (U - p * m) * (L * vy * (U - p * m)) = L * L * ((vx * vx + vy * vy) * ((U - p * m) * (U - p * m))) := by grind
    have e4 : L * m * L * J * (L * m * L * J) = L * L * (L * L * (J * m * (J * m))) := by grind
    rw [e3, e4]
    refine Int.mul_le_mul_of_nonneg_left (sq_le (by omega) hJ' (by omega) (sq_nn L) v ?_) (sq_nn L)
    have := sq_nn vx
    have := sq_nn vy
    omega
  · obtain ⟨d, rfl⟩ : ∃ d, k = j + 1 + d := ⟨k - (j + 1), by omega⟩
    have F := fix_le (fx := fx) (r := r) (j + 1) d
    have mF := bg_mono fx r (show j + 1 ≤ j + 1 + d by omega)
    have ev1 : (vec fx r j).1 = (pt fx (at_ r (j + 1))).1 - (pt fx (at_ r j)).1 := rfl
    have ev2 : (vec fx r j).2.1 = (pt fx (at_ r (j + 1))).2 - (pt fx (at_ r j)).2 := rfl
    have ev3 : (vec fx r j).2.2 = bg fx r (j + 1) - bg fx r j := rfl
    unfold plX plY onL
    dsimp only
    generalize (vec fx r (j + 1 + d)).2.2 = L at *
    generalize (vec fx r (j + 1 + d)).1 = vx at *
    generalize (vec fx r (j + 1 + d)).2.1 = vy at *
    generalize bg fx r (j + 1 + d) = b at *
    generalize (pt fx (at_ r (j + 1 + d))).1 = a1 at *
    generalize (pt fx (at_ r (j + 1 + d))).2 = a2 at *
    generalize (vec fx r j).2.2 = L' at *
    generalize (vec fx r j).1 = ux at *
    generalize (vec fx r j).2.1 = uy at *
    generalize bg fx r j = c at *
    generalize bg fx r (j + 1) = c' at *
    generalize (pt fx (at_ r (j + 1))).1 = z1 at *
    generalize (pt fx (at_ r (j + 1))).2 = z2 at *
    generalize (pt fx (at_ r j)).1 = y1 at *
    generalize (pt fx (at_ r j)).2 = y2 at *
    have e1 : (a1 * (L * m) + vx * (U - b * m)) * L' - (y1 * L' + ux * (p - c)) * (L * m) = L' * L * m * (a1 - z1) + L' * (U - b * m) * vx + L * m * (c' - p) * ux := by
      have : y1 = z1 - ux := by omega
      subst this
      subst ev3
      grind
    have e2 : (a2 * (L * m) + vy * (U - b * m)) * L' - (y2 * L' + uy * (p - c)) * (L * m) = L' * L * m * (a2 - z2) + L' * (U - b * m) * vy + L * m * (c' - p) * uy := by
      have : y2 = z2 - uy := by omega
      subst this
      subst ev3
      grind
    rw [e1, e2]
    have sc : ∀ {g x y P : Int}, 0 ≤ g → x * x + y * y ≤ P * P → g * x * (g * x) + g * y * (g * y) ≤ g * P * (g * P) := fun {g x y P} hg h => by
      have e1 : g * x * (g * x) + g * y * (g * y) = g * g * (x * x + y * y) := by grind
      have e2 : g * P * (g * P) = g * g * (P * P) := by grind
      rw [e1, e2]
      exact Int.mul_le_mul_of_nonneg_left h (sq_nn g)
    have hLL : 0 ≤ L' * L := Int.mul_nonneg hL' hL
    have hm0 : 0 ≤ m := Int.le_of_lt hm
    have g1 : 0 ≤ L' * L * m := Int.mul_nonneg hLL hm0
    have g2 : 0 ≤ L' * (U - b * m) := Int.mul_nonneg hL' (by omega)
    have g3 : 0 ≤ L * m * (c' - p) := Int.mul_nonneg (Int.mul_nonneg hL hm0) (by omega)
    have t1 := tri_le2 (Int.mul_nonneg g1 (show 0 ≤ b - c' by omega)) (Int.mul_nonneg g2 hL) (sc g1 F) (sc g2 v)
    have t2 := tri_le2 (Int.add_nonneg (Int.mul_nonneg g1 (show 0 ≤ b - c' by omega)) (Int.mul_nonneg g2 hL)) (Int.mul_nonneg g3 hL') t1 (sc g3 v')
    refine Int.le_trans t2 ?_
    have e5 : L' * L * m * (b - c') + L' * (U - b * m) * L + L * m * (c' - p) * L' = L' * L * (U - p * m) := by grind
    have e6 : L * m * L' * J = L' * L * (J * m) := by grind
    rw [e5, e6]
    exact Int.mul_le_mul (Int.mul_le_mul_of_nonneg_left hJ' hLL) (Int.mul_le_mul_of_nonneg_left hJ' hLL) (Int.mul_nonneg hLL (by omega)) (Int.mul_nonneg hLL (by omega))
end Law
set_option Elab.async false
set_option linter.all false
set_option maxRecDepth 100000
set_option maxHeartbeats 4100000
/-! PrQ: pieces of boxes that grow, on; in plain Lean (k17). -/
namespace Law
open PySem L2 Evl Sk MP M10
/-- the same place, told otherwise -/
theorem OnSg.same {s : Sg} {X Y n X' Y' n' : Int} (hn : 0 < n) (h : OnSg s X Y n) (e1 : X * n' = X' * n) (e2 : Y * n' = Y' * n) : OnSg s X' Y' n' := by
  obtain ⟨t, m, h0, h1, hm, f1, f2⟩ := h.ex
  refine ⟨t, m, h0, h1, hm, ?_, ?_⟩
  · refine Int.eq_of_mul_eq_mul_left (a := n) (by omega) ?_
    have z : n * (X' * s.2.2.2.2 * m) = (X' * n) * s.2.2.2.2 * m := by grind
    have z2 : (X * n') * s.2.2.2.2 * m = n' * (X * s.2.2.2.2 * m) := by grind
    rw [z, ← e1, z2, f1]
    grind
  · refine Int.eq_of_mul_eq_mul_left (a := n) (by omega) ?_
    have z : n * (Y' * s.2.2.2.2 * m) = (Y' * n) * s.2.2.2.2 * m := by grind
    have z2 : (Y * n') * s.2.2.2.2 * m = n' * (Y * s.2.2.2.2 * m) := by grind
    rw [z, ← e2, z2, f2]
    grind
theorem la_rng {fx : Fx} {r : List Str} (h : PcOk fx r) {p : Int} (p0 : 0 ≤ p) (p1 : p < tot fx r) : bg fx r (la fx r p) ≤ p ∧ p < bg fx r (la fx r p + 1) := by
  have L := la_ok fx h.two p
  constructor
  · rcases Nat.eq_zero_or_pos (la fx r p) with z | z
    · rw [z]
      exact p0
    · exact L.le _ z (Nat.le_refl _)
  · rcases L.en with z | z
    · rw [z]
      exact p1
    · exact z
/-- a whole progress at the end of a leg is the begin of the next one -/
theorem onL_same {fx : Fx} {r : List Str} (h : PcOk fx r) {k : Nat} {p : Int} (hk : k + 1 < r.length) (p0 : 0 ≤ p) (p1 : p < tot fx r) (b1 : bg fx r k ≤ p) (b2 : p ≤ bg fx r (k + 1)) :
    (onL fx r (la fx r p) p).1 * (vec fx r k).2.2 = (onL fx r k p).1 * (onL fx r (la fx r p) p).2.2 ∧ (onL fx r (la fx r p) p).2.1 * (vec fx r k).2.2 = (onL fx r k p).2.1 * (onL fx r (la fx r p) p).2.2 := by
  obtain ⟨c1, c2⟩ := la_rng h p0 p1
  have hj := Law.la_lt h.two (fx := fx) p
  generalize la fx r p = j at *
  have kj : k ≤ j := by
    rcases Nat.lt_or_ge j k with z | z
    · have := bg_mono fx r (show j + 1 ≤ k by omega)
      omega
    · exact z
  rcases Int.lt_or_le p (bg fx r (k + 1)) with z | z
  · have e : j = k := by
      rcases Nat.lt_or_ge k j with y | y
      · have := bg_mono fx r (show k + 1 ≤ j by omega)
        omega
      · omega
    subst e
    exact ⟨rfl, rfl⟩
  · have ep : p = bg fx r (k + 1) := by omega
    have e : j = k + 1 := by
      have z1 : k < j := by
        rcases Nat.lt_or_ge k j with y | y
        · exact y
        · have : j = k := by omega
          subst this
          omega
      rcases Nat.lt_or_ge (k + 1) j with y | y
      · have := bg_mono fx r (show k + 2 ≤ j by omega)
        have := bg_lt h.st (show k + 1 + 1 < r.length by omega)
        have e3 : bg fx r (k + 1 + 1) = bg fx r (k + 2) := rfl
        omega
      · omega
    subst e
    subst ep
    unfold onL vec
    dsimp only
    constructor <;> grind
/-- a place of a leg within the box stands on its piece -/
theorem in_piece {fx : Fx} {r : List Str} (h : PcOk fx r) {lo hi U m : Int} {k : Nat} (hm : 0 < m) (hk : OnK fx r k U m) (h1 : lo * m ≤ U) (h2 : U ≤ hi * m) (hl : lo < tot fx r) (hh : lo ≤ hi) (h0 : 0 ≤ hi) :
    ∃ s ∈ pcs fx r lo hi, OnSg s (plX fx r k U m) (plY fx r k U m) ((vec fx r k).2.2 * m) := by
  have ht : 0 ≤ tot fx r := bg_nn _ _ _
  have hkl := hk.lt
  have lk := bg_lt h.st hkl
  have lT : bg fx r (k + 1) ≤ tot fx r := bg_mono fx r (show k + 1 ≤ r.length - 1 by omega)
  have hL : 0 < (vec fx r k).2.2 := by
    show 0 < bg fx r (k + 1) - bg fx r k
    omega
  have hb0 := bg_nn fx r k
  have hA : mx lo 0 * m ≤ U := by
    unfold mx
    split
    · have := Int.mul_nonneg hb0 (Int.le_of_lt hm)
      have := hk.lo
      omega
    · exact h1
  have hH : U ≤ mn hi (tot fx r) * m := by
    unfold mn
    split
    · exact Int.le_trans hk.hi (Int.mul_le_mul_of_nonneg_right lT (Int.le_of_lt hm))
    · exact h2
  have a0 : 0 ≤ mx lo 0 := by unfold mx; split <;> omega
  have alo : lo ≤ mx lo 0 := by unfold mx; split <;> omega
  have aT : mx lo 0 < tot fx r := by
    unfold mx
    split
    · omega
    · exact hl
  have hhi : mn hi (tot fx r) ≤ hi := by unfold mn; split <;> omega
  have hhT : mn hi (tot fx r) ≤ tot fx r := by unfold mn; split <;> omega
  have whole : ∀ {p : Int}, U = p * m → mx lo 0 ≤ p → p ≤ mn hi (tot fx r) → p < tot fx r → ∃ s ∈ pcs fx r lo hi, OnSg s (plX fx r k U m) (plY fx r k U m) ((vec fx r k).2.2 * m) := fun {p} eU q1 q2 q3 => by
    subst eU
    obtain ⟨s, hs, ho⟩ := piece_on h (show lo ≤ p by omega) (show p ≤ hi by omega) (by omega) q3
    have b1 : bg fx r k ≤ p := Int.le_of_mul_le_mul_right hk.lo hm
    have b2 : p ≤ bg fx r (k + 1) := Int.le_of_mul_le_mul_right hk.hi hm
    obtain ⟨e1, e2⟩ := onL_same h hkl (by omega) q3 b1 b2
    have hj := Law.la_lt h.two (fx := fx) p
    have lj := bg_lt h.st hj
    refine ⟨s, hs, ho.same (by show 0 < bg fx r (la fx r p + 1) - bg fx r (la fx r p); omega) ?_ ?_⟩
    · have z : plX fx r k (p * m) m = (onL fx r k p).1 * m := by unfold plX onL; dsimp only; grind
      rw [z, ← Int.mul_assoc, e1]
      grind
    · have z : plY fx r k (p * m) m = (onL fx r k p).2.1 * m := by unfold plY onL; dsimp only; grind
      rw [z, ← Int.mul_assoc, e2]
      grind
  by_cases e : mx lo 0 = mn hi (tot fx r)
  · exact whole (p := mx lo 0) (Int.le_antisymm (by rw [e]; exact hH) hA) (Int.le_refl _) (Int.le_of_eq e) aT
  · by_cases hs : mx (mx lo 0) (bg fx r k) < mn (mn hi (tot fx r)) (bg fx r (k + 1))
    · have ms : seg fx r (mx lo 0) (mn hi (tot fx r)) k = [_] := if_pos (decide_eq_true hs)
      have hmem : toSg [(onL fx r k (mx (mx lo 0) (bg fx r k))).1, (onL fx r k (mx (mx lo 0) (bg fx r k))).2.1, (onL fx r k (mn (mn hi (tot fx r)) (bg fx r (k + 1)))).1, (onL fx r k (mn (mn hi (tot fx r)) (bg fx r (k + 1)))).2.1, (onL fx r k (mx (mx lo 0) (bg fx r k))).2.2] ∈ pcs fx r lo hi := by
        unfold pcs piece
        rw [if_neg (by simp only [Bool.or_eq_true, decide_eq_true_eq]; omega), if_neg (by rw [decide_eq_true_eq]; exact e)]
        exact List.mem_map.mpr ⟨_, List.mem_flatMap.mpr ⟨k, List.mem_range.mpr (by omega), by rw [ms]; exact List.mem_singleton.mpr rfl⟩, rfl⟩
      refine ⟨_, hmem, ?_⟩
      have u1 : mx (mx lo 0) (bg fx r k) * m ≤ U := by
        generalize mx lo 0 = z at *
        unfold mx
        split
        · exact hk.lo
        · exact hA
      have u2 : U ≤ mn (mn hi (tot fx r)) (bg fx r (k + 1)) * m := by
        generalize mn hi (tot fx r) = z at *
        unfold mn
        split
        · exact hk.hi
        · exact hH
      generalize mx (mx lo 0) (bg fx r k) = a at *
      generalize mn (mn hi (tot fx r)) (bg fx r (k + 1)) = b at *
      have ez : (b - a) * m = b * m - a * m := by grind
      refine ⟨U - a * m, (b - a) * m, by omega, by omega, Int.mul_pos (by omega) hm, ?_, ?_⟩
      · show plX fx r k U m * (onL fx r k a).2.2 * _ = ((onL fx r k a).1 * _ + ((onL fx r k b).1 - (onL fx r k a).1) * _) * _
        unfold plX onL
        dsimp only
        grind
      · show plY fx r k U m * (onL fx r k a).2.2 * _ = ((onL fx r k a).2.1 * _ + ((onL fx r k b).2.1 - (onL fx r k a).2.1) * _) * _
        unfold plY onL
        dsimp only
        grind
    · -- the leg touches the box at one place alone
      have w : ∃ p, U = p * m ∧ mx lo 0 ≤ p ∧ p ≤ mn hi (tot fx r) ∧ p < tot fx r := by
        have k1 := hk.lo
        have k2 := hk.hi
        generalize mx lo 0 = a at *
        generalize mn hi (tot fx r) = b at *
        have ab : a ≤ b := Int.le_of_mul_le_mul_right (Int.le_trans hA hH) hm
        have kb : bg fx r k ≤ b := Int.le_of_mul_le_mul_right (Int.le_trans k1 hH) hm
        have ak : a ≤ bg fx r (k + 1) := Int.le_of_mul_le_mul_right (Int.le_trans hA k2) hm
        unfold mx mn at hs
        split at hs <;> split at hs
        · omega
        · have : b = bg fx r k := by omega
          exact ⟨bg fx r k, Int.le_antisymm (by rw [← this]; exact hH) k1, by omega, by omega, by omega⟩
        · have : a = bg fx r (k + 1) := by omega
          exact ⟨a, Int.le_antisymm (by rw [this]; exact k2) hA, by omega, by omega, by omega⟩
        · omega
      obtain ⟨p, q0, q1, q2, q3⟩ := w
      exact whole q0 q1 q2 q3
/-- a segment of a piece lies on a leg, within the box -/
theorem pcs_leg {fx : Fx} {r : List Str} (h : PcOk fx r) {lo hi : Int} {s : Sg} (hs : s ∈ pcs fx r lo hi) : ∃ (k : Nat) (a b : Int), k + 1 < r.length ∧ lo ≤ a ∧ 0 ≤ a ∧ a ≤ b ∧ b ≤ hi ∧ bg fx r k ≤ a ∧ b ≤ bg fx r (k + 1) ∧
    s = ((onL fx r k a).1, (onL fx r k a).2.1, (onL fx r k b).1, (onL fx r k b).2.1, (onL fx r k a).2.2) := by
  have ht : 0 ≤ tot fx r := bg_nn _ _ _
  obtain ⟨l, hl, es⟩ := List.mem_map.mp hs
  unfold piece at hl
  split at hl
  · cases hl
  rename_i hz
  simp only [Bool.or_eq_true, decide_eq_true_eq, not_or] at hz
  have a0 : 0 ≤ mx lo 0 := by unfold mx; split <;> omega
  have alo : lo ≤ mx lo 0 := by unfold mx; split <;> omega
  have hhi : mn hi (tot fx r) ≤ hi := by unfold mn; split <;> omega
  have hhT : mn hi (tot fx r) ≤ tot fx r := by unfold mn; split <;> omega
  split at hl
  · rename_i e
    have e := of_decide_eq_true e
    rw [List.mem_singleton] at hl
    subst hl
    have L := la_ok fx h.two (mx lo 0)
    refine ⟨la fx r (mx lo 0), mx lo 0, mx lo 0, Law.la_lt h.two (fx := fx) _, alo, a0, Int.le_refl _, by omega, ?_, ?_, es.symm⟩
    · rcases Nat.eq_zero_or_pos (la fx r (mx lo 0)) with z | z
      · rw [z]
        exact a0
      · exact L.le _ z (Nat.le_refl _)
    · rcases L.en with z | z
      · rw [z]
        show _ ≤ tot fx r
        omega
      · omega
  · obtain ⟨k, hk, hs2⟩ := List.mem_flatMap.mp hl
    have hk := List.mem_range.mp hk
    unfold seg at hs2
    split at hs2
    · rename_i hq
      have hq := of_decide_eq_true hq
      rw [List.mem_singleton] at hs2
      subst hs2
      have c1 : mx lo 0 ≤ mx (mx lo 0) (bg fx r k) ∧ bg fx r k ≤ mx (mx lo 0) (bg fx r k) := by
        generalize mx lo 0 = z
        unfold mx
        split <;> omega
      have c2 : mn (mn hi (tot fx r)) (bg fx r (k + 1)) ≤ mn hi (tot fx r) ∧ mn (mn hi (tot fx r)) (bg fx r (k + 1)) ≤ bg fx r (k + 1) := by
        generalize mn hi (tot fx r) = z
        unfold mn
        split <;> omega
      exact ⟨k, _, _, by omega, by omega, by omega, by omega, by omega, c1.2, c2.2, es.symm⟩
    · cases hs2
/-- the box before: lows never fall, the high grows by J at most -/
structure Grow (lo hi lo' hi' J : Int) : Prop where
  lo : lo ≤ lo'
  hi : hi' ≤ hi + J
  J : 0 ≤ J
/-- a place of the piece of now comes from a near place of the piece before -/
theorem shift {fx : Fx} {r : List Str} (h : PcOk fx r) {lo hi lo' hi' J : Int} (g : Grow lo hi lo' hi' J) (hl : lo < tot fx r) (hh : lo ≤ hi) (h0 : 0 ≤ hi) {s : Sg} (hs : s ∈ pcs fx r lo' hi') {t m : Int} (t0 : 0 ≤ t) (t1 : t ≤ m) (hm : 0 < m) :
    ∃ s0 ∈ pcs fx r lo hi, ∃ X Y n : Int, 0 < n ∧ OnSg s0 X Y n ∧ ((s.1 * m + (s.2.2.1 - s.1) * t) * n - X * (s.2.2.2.2 * m)) * ((s.1 * m + (s.2.2.1 - s.1) * t) * n - X * (s.2.2.2.2 * m)) + ((s.2.1 * m + (s.2.2.2.1 - s.2.1) * t) * n - Y * (s.2.2.2.2 * m)) * ((s.2.1 * m + (s.2.2.2.1 - s.2.1) * t) * n - Y * (s.2.2.2.2 * m)) ≤ (s.2.2.2.2 * m * n * J) * (s.2.2.2.2 * m * n * J) := by
  obtain ⟨k, a, b, hk, a1, a2, ab, b1, ka, kb, rfl⟩ := pcs_leg h hs
  dsimp only
  have lk := bg_lt h.st hk
  have lT : bg fx r (k + 1) ≤ tot fx r := bg_mono fx r (show k + 1 ≤ r.length - 1 by omega)
  have hm0 := Int.le_of_lt hm
  have p1 : 0 ≤ (b - a) * t := Int.mul_nonneg (by omega) t0
  have p2 : (b - a) * t ≤ (b - a) * m := Int.mul_le_mul_of_nonneg_left t1 (by omega)
  generalize eU : a * m + (b - a) * t = U
  have u1 : a * m ≤ U := by omega
  have u2 : U ≤ b * m := by
    have : b * m = a * m + (b - a) * m := by grind
    omega
  have on : OnK fx r k U m := ⟨hk, Int.le_trans (Int.mul_le_mul_of_nonneg_right ka hm0) u1, Int.le_trans u2 (Int.mul_le_mul_of_nonneg_right kb hm0)⟩
  have ex : (onL fx r k a).1 * m + ((onL fx r k b).1 - (onL fx r k a).1) * t = plX fx r k U m := by
    subst eU
    unfold plX onL
    dsimp only
    grind
  have ey : (onL fx r k a).2.1 * m + ((onL fx r k b).2.1 - (onL fx r k a).2.1) * t = plY fx r k U m := by
    subst eU
    unfold plY onL
    dsimp only
    grind
  rw [ex, ey]
  have hL : 0 < (vec fx r k).2.2 := by
    show 0 < bg fx r (k + 1) - bg fx r k
    omega
  rcases Int.lt_or_le (hi * m) U with z | z
  · have hT : hi < tot fx r := by
      refine Int.lt_of_mul_lt_mul_right (a := m) ?_ hm0
      exact Int.lt_of_lt_of_le z (Int.le_trans on.hi (Int.mul_le_mul_of_nonneg_right lT hm0))
    obtain ⟨s0, hs0, ho⟩ := piece_on h hh (Int.le_refl hi) h0 hT
    obtain ⟨c1, c2⟩ := la_rng h h0 hT
    have hj := Law.la_lt h.two (fx := fx) hi
    have lj := bg_lt h.st hj
    have hjk : la fx r hi ≤ k := by
      rcases Nat.lt_or_ge k (la fx r hi) with y | y
      · exfalso
        have := bg_mono fx r (show k + 1 ≤ la fx r hi by omega)
        have y2 := Int.mul_le_mul_of_nonneg_right (show bg fx r (k + 1) ≤ hi by omega) hm0
        have := on.hi
        omega
      · exact y
    refine ⟨s0, hs0, _, _, _, ?_, ho, place_lip hm on ⟨c1, Int.le_of_lt c2⟩ hjk (Int.le_of_lt z) (Int.le_trans u2 (Int.mul_le_mul_of_nonneg_right (by have := g.hi; omega) hm0))⟩
    show 0 < bg fx r (la fx r hi + 1) - bg fx r (la fx r hi)
    omega
  · obtain ⟨s0, hs0, ho⟩ := in_piece h hm on (Int.le_trans (Int.mul_le_mul_of_nonneg_right (by have := g.lo; omega) hm0) u1) z hl hh h0
    refine ⟨s0, hs0, _, _, _, Int.mul_pos hL hm, ho, ?_⟩
    show (plX fx r k U m * ((vec fx r k).2.2 * m) - plX fx r k U m * ((onL fx r k a).2.2 * m)) * _ + _ ≤ _
    have e : (onL fx r k a).2.2 = (vec fx r k).2.2 := rfl
    rw [e, Int.sub_self, Int.sub_self]
    have := sq_nn ((vec fx r k).2.2 * m * ((vec fx r k).2.2 * m) * J)
    omega
/-- pieces nearer than l come from pieces nearer than l and what they grew by -/
theorem near_shift {fx fx2 : Fx} {r r2 : List Str} (h : PcOk fx r) (h2 : PcOk fx2 r2) {lo hi lo' hi' J lo2 hi2 lo2' hi2' J2 l : Int} (g : Grow lo hi lo' hi' J) (g2 : Grow lo2 hi2 lo2' hi2' J2) (hl : lo < tot fx r) (hh : lo ≤ hi) (h0 : 0 ≤ hi) (hl2 : lo2 < tot fx2 r2) (hh2 : lo2 ≤ hi2) (h02 : 0 ≤ hi2) (l0 : 0 ≤ l)
    (hpo : ∀ s ∈ pcs fx r lo' hi', 1 ≤ s.2.2.2.2) (hpo2 : ∀ s ∈ pcs fx2 r2 lo2' hi2', 1 ≤ s.2.2.2.2) (hpp : ∀ s ∈ pcs fx r lo hi, 1 ≤ s.2.2.2.2) (hpp2 : ∀ s ∈ pcs fx2 r2 lo2 hi2, 1 ≤ s.2.2.2.2)
    {x y : Sg} (hx : x ∈ pcs fx r lo' hi') (hy : y ∈ pcs fx2 r2 lo2' hi2') (hn : lcV x y l = true) : ∃ x0 ∈ pcs fx r lo hi, ∃ y0 ∈ pcs fx2 r2 lo2 hi2, lcV x0 y0 (l + J + J2) = true := by
  obtain ⟨s, m, t, n, c1, c2, c3, c4, c5, c6, hd⟩ := lc_pts hn
  obtain ⟨x0, hx0, X, Y, p, hp, ox, dx⟩ := shift h g hl hh h0 hx c1 c2 c3
  obtain ⟨y0, hy0, X2, Y2, q, hq, oy, dy⟩ := shift h2 g2 hl2 hh2 h02 hy c4 c5 c6
  refine ⟨x0, hx0, y0, hy0, lc_near (hpp _ hx0) (hpp2 _ hy0) hp hq ox oy ?_⟩
  have hxd := hpo _ hx
  have hyd := hpo2 _ hy
  have hN : 0 < x.2.2.2.2 * m := Int.mul_pos (by omega) c3
  have hN2 : 0 < y.2.2.2.2 * n := Int.mul_pos (by omega) c6
  generalize x.2.2.2.2 * m = N at *
  generalize y.2.2.2.2 * n = M at *
  generalize x.1 * m + (x.2.2.1 - x.1) * s = A at *
  generalize x.2.1 * m + (x.2.2.2.1 - x.2.1) * s = A' at *
  generalize y.1 * n + (y.2.2.1 - y.1) * t = C at *
  generalize y.2.1 * n + (y.2.2.2.1 - y.2.1) * t = C' at *
  have sc : ∀ {g x y P : Int}, g * x * (g * x) + g * y * (g * y) = g * g * (x * x + y * y) ∧ g * P * (g * P) = g * g * (P * P) := fun {g x y P} => ⟨by grind, by grind⟩
  have scl : ∀ {g x y P : Int}, 0 ≤ g → x * x + y * y ≤ P * P → g * x * (g * x) + g * y * (g * y) ≤ g * P * (g * P) := fun {g x y P} hg h => by
    rw [(sc (g := g) (x := x) (y := y) (P := P)).1, (sc (g := g) (x := x) (y := y) (P := P)).2]
    exact Int.mul_le_mul_of_nonneg_left h (sq_nn g)
  have sct : ∀ {g x y P : Int}, 0 < g → x * x + y * y < P * P → g * x * (g * x) + g * y * (g * y) < g * P * (g * P) := fun {g x y P} hg h => by
    rw [(sc (g := g) (x := x) (y := y) (P := P)).1, (sc (g := g) (x := x) (y := y) (P := P)).2]
    exact Int.mul_lt_mul_of_pos_left h (Int.mul_pos hg hg)
  have neg : ∀ {x y P : Int}, x * x + y * y ≤ P → (-x) * (-x) + (-y) * (-y) ≤ P := fun {x y P} h => by
    rw [Int.neg_mul_neg, Int.neg_mul_neg]
    exact h
  have hpq : 0 < p * q := Int.mul_pos hp hq
  have hMq : 0 ≤ M * q := Int.le_of_lt (Int.mul_pos hN2 hq)
  have hNp : 0 ≤ N * p := Int.le_of_lt (Int.mul_pos hN hp)
  have hNM : 0 ≤ N * M := Int.le_of_lt (Int.mul_pos hN hN2)
  have t1 := tri_lt2 (Int.mul_nonneg (Int.le_of_lt hpq) (Int.mul_nonneg l0 hNM)) (Int.mul_nonneg hMq (Int.mul_nonneg hNp g.J)) (sct hpq hd) (neg (scl hMq dx))
  have t2 := tri_lt2 (Int.add_nonneg (Int.mul_nonneg (Int.le_of_lt hpq) (Int.mul_nonneg l0 hNM)) (Int.mul_nonneg hMq (Int.mul_nonneg hNp g.J))) (Int.mul_nonneg hNp (Int.mul_nonneg hMq g2.J)) t1 (scl hNp dy)
  have e1 : p * q * (A * M - C * N) + -(M * q * (A * p - X * N)) + N * p * (C * q - X2 * M) = N * M * (X * q - X2 * p) := by grind
  have e2 : p * q * (A' * M - C' * N) + -(M * q * (A' * p - Y * N)) + N * p * (C' * q - Y2 * M) = N * M * (Y * q - Y2 * p) := by grind
  have e3 : p * q * (l * (N * M)) + M * q * (N * p * J) + N * p * (M * q * J2) = N * M * ((l + J + J2) * (p * q)) := by grind
  rw [e1, e2, e3, (sc (g := N * M) (x := X * q - X2 * p) (y := Y * q - Y2 * p) (P := 0)).1, (sc (g := N * M) (x := 0) (y := 0) (P := (l + J + J2) * (p * q))).2] at t2
  exact Int.lt_of_mul_lt_mul_left (a := N * M * (N * M)) t2 (Int.mul_nonneg hNM hNM)
end Law
set_option Elab.async false
set_option linter.all false
set_option maxRecDepth 100000
set_option maxHeartbeats 4100000
/-! TkP: tracks, the first conflict, quiet ticks; in plain Lean (k17). -/
namespace Law
open PySem L2 Evl Sk MP M10
abbrev Trk := PR × Int × List B4
abbrev rTrk (C : Addr) : Rp Trk := rTup (fCons (rPath C) (fCons rInt (fOne (rLst rB4))))
structure TkOk (t : Trk) : Prop where
  ch : ChOk t.1.1
  rt : RtV t.1.1 t.1.2
  t0 : 0 ≤ t.2.1 ∧ t.2.1 ≤ 1000
  ln : t.2.2.length ≤ 240
  bx : ∀ b ∈ t.2.2, b.1 < tot (fxOf t.1.1) t.1.2 ∧ b.1 ≤ b.2.1
  gr : ∀ (i : Nat) (b c : B4), t.2.2[i]? = some b → t.2.2[i + 1]? = some c → b.1 ≤ c.1 ∧ c.2.1 - b.2.1 < 2 ^ 100
theorem TkOk.pc {t : Trk} (h : TkOk t) : PcOk (fxOf t.1.1) t.1.2 := ⟨h.rt.two, h.rt.strict h.ch⟩
def boxAt (t : Trk) (k : Int) : Option B4 := if t.2.1 ≤ k ∧ k < t.2.1 + t.2.2.length then t.2.2[(k - t.2.1).toNat]? else none
def pcT (t : Trk) (b : B4) : List Sg := pcs (fxOf t.1.1) t.1.2 b.1 b.2.1
def ctV (a b : Trk) : Int × Int := (mx a.2.1 b.2.1, mn (a.2.1 + a.2.2.length) (b.2.1 + b.2.2.length))
def spT (ru : RuV) (a b : Trk) (k : Int) : Bool := match boxAt a k, boxAt b k with
  | some x, some y => spV ru x (pcT a x) y (pcT b y)
  | _, _ => true
theorem ctV_comm (a b : Trk) : ctV b a = ctV a b := by
  unfold ctV mx mn
  refine Prod.ext ?_ ?_
  · dsimp only
    split <;> split <;> omega
  · dsimp only
    split <;> split <;> omega
theorem spT_comm (ru : RuV) (a b : Trk) (k : Int) : spT ru b a k = spT ru a b k := by
  unfold spT
  cases boxAt a k <;> cases boxAt b k <;> first | rfl | exact spV_comm _ _ _ _ _
theorem box_some {t : Trk} {k : Int} (h : t.2.1 ≤ k) (h2 : k < t.2.1 + t.2.2.length) : ∃ b, boxAt t k = some b ∧ t.2.2[(k - t.2.1).toNat]? = some b := by
  have hl : (k - t.2.1).toNat < t.2.2.length := by omega
  refine ⟨t.2.2[(k - t.2.1).toNat], ?_, List.getElem?_eq_getElem hl⟩
  unfold boxAt
  rw [if_pos ⟨h, h2⟩]
  exact List.getElem?_eq_getElem hl
theorem ct_in {a b : Trk} {k : Int} (h : (ctV a b).1 ≤ k) (h2 : k < (ctV a b).2) : (a.2.1 ≤ k ∧ k < a.2.1 + a.2.2.length) ∧ b.2.1 ≤ k ∧ k < b.2.1 + b.2.2.length := by
  unfold ctV mx mn at h h2
  dsimp only at h h2
  split at h <;> split at h2 <;> omega
/-- the first conflict -/
def FcOk (ru : RuV) (a b : Trk) : Option Int → Prop
  | none => ∀ k, (ctV a b).1 ≤ k → k < (ctV a b).2 → spT ru a b k = true
  | some k => ((ctV a b).1 ≤ k ∧ k < (ctV a b).2) ∧ spT ru a b k = false ∧ ∀ j, (ctV a b).1 ≤ j → j < k → spT ru a b j = true
theorem FcOk.eq {ru : RuV} {a b : Trk} : ∀ {x y : Option Int}, FcOk ru a b x → FcOk ru a b y → x = y
  | none, none, _, _ => rfl
  | none, some k, h, ⟨⟨h1, h2⟩, h3, _⟩ => by rw [h k h1 h2] at h3; cases h3
  | some k, none, ⟨⟨h1, h2⟩, h3, _⟩, h => by rw [h k h1 h2] at h3; cases h3
  | some k, some j, ⟨⟨h1, h2⟩, h3, h4⟩, ⟨⟨g1, g2⟩, g3, g4⟩ => by
    rcases Int.lt_trichotomy k j with z | z | z
    · rw [g4 k h1 z] at h3
      cases h3
    · rw [z]
    · rw [h4 j g1 z] at g3
      cases g3
theorem FcOk.comm {ru : RuV} {a b : Trk} {x : Option Int} (h : FcOk ru a b x) : FcOk ru b a x := by
  cases x with
  | none =>
    intro k h1 h2
    rw [spT_comm]
    rw [ctV_comm] at h1 h2
    exact h k h1 h2
  | some k =>
    obtain ⟨h1, h2, h3⟩ := h
    refine ⟨by rw [ctV_comm]; exact h1, by rw [spT_comm]; exact h2, fun j h4 h5 => ?_⟩
    rw [spT_comm]
    rw [ctV_comm] at h4
    exact h3 j h4 h5
/-- the greatest growth of a high -/
structure FsOk (bs : List B4) (m : Int) : Prop where
  one : 1 ≤ m
  lt : m < 2 ^ 100
  gr : ∀ (i : Nat) (b c : B4), bs[i]? = some b → bs[i + 1]? = some c → c.2.1 - b.2.1 ≤ m
theorem grow_to {t : Trk} (h : TkOk t) {m : Int} (hm : FsOk t.2.2 m) {i : Nat} {b : B4} (hb : t.2.2[i]? = some b) : ∀ (d : Nat) {c : B4}, t.2.2[i + d]? = some c → Grow b.1 b.2.1 c.1 c.2.1 ((d : Int) * m)
  | 0, c, hc => by
    rw [Nat.add_zero, hb] at hc
    cases hc
    exact ⟨Int.le_refl _, by simp, by simp⟩
  | d + 1, c, hc => by
    have hl := (List.getElem?_eq_some_iff.mp hc).1
    have hx : t.2.2[i + d]? = some t.2.2[i + d] := List.getElem?_eq_getElem (by omega)
    have ih := grow_to h hm hb d hx
    generalize t.2.2[i + d] = x at hx ih
    have g1 := (h.gr (i + d) x c hx hc).1
    have g2 := hm.gr (i + d) x c hx hc
    have e : ((d + 1 : Nat) : Int) * m = (d : Int) * m + m := by
      rw [Int.natCast_add, Int.add_mul]
      omega
    have := hm.one
    have i1 := ih.lo
    have i2 := ih.hi
    have i3 := ih.J
    exact ⟨by omega, by omega, by omega⟩
theorem pcT_ne {t : Trk} (h : TkOk t) {b : B4} (hb : b ∈ t.2.2) (h0 : 0 ≤ b.2.1) : ∃ s, s ∈ pcT t b := by
  obtain ⟨h1, h2⟩ := h.bx b hb
  obtain ⟨s, hs, _⟩ := piece_on h.pc (lo := b.1) (hi := b.2.1) (p := mx b.1 0) (by unfold mx; split <;> omega) (by unfold mx; split <;> omega) (by unfold mx; split <;> omega) (by
    have ht : 0 ≤ tot (fxOf t.1.1) t.1.2 := bg_nn _ _ _
    unfold mx
    split
    · have := bg_lt h.pc.st (k := 0) (by have := h.pc.two; omega)
      have e : bg (fxOf t.1.1) t.1.2 0 = 0 := rfl
      have := bg_mono (fxOf t.1.1) t.1.2 (show 0 + 1 ≤ t.1.2.length - 1 by have := h.pc.two; omega)
      show 0 < bg _ _ (t.1.2.length - 1)
      omega
    · omega)
  exact ⟨s, hs⟩
theorem pcT_neg {t : Trk} {b : B4} (h : b.2.1 < 0) : pcT t b = [] := by
  unfold pcT pcs piece
  rw [if_pos (by rw [decide_eq_true h]; rfl)]
  rfl
theorem pcT_pos {t : Trk} (h : TkOk t) {b : B4} : ∀ s ∈ pcT t b, SgB s := pcs_ok h.ch h.rt b.1 b.2.1
/-- how far two pieces are, as gap_between tells -/
structure GbOk (a b : Trk) (x y : B4) (g : Int) : Prop where
  le : ∀ s ∈ pcT a x, ∀ s' ∈ pcT b y, g ≤ dsV s s'
  ex : ∃ s ∈ pcT a x, ∃ s' ∈ pcT b y, g = dsV s s'
theorem gp_min {a b : Trk} (ha : TkOk a) (hb : TkOk b) {x y : B4} (hx : x ∈ a.2.2) (hy : y ∈ b.2.2) (x0 : 0 ≤ x.2.1) (y0 : 0 ≤ y.2.1) : ∃ m, minO id (pairsM (fun _ : Sg => pcT b y) dsV (pcT a x)) = some m ∧ GbOk a b x y m := by
  obtain ⟨s, hs⟩ := pcT_ne ha hx x0
  obtain ⟨s', hs'⟩ := pcT_ne hb hy y0
  have hm : dsV s s' ∈ pairsM (fun _ : Sg => pcT b y) dsV (pcT a x) := List.mem_flatMap.mpr ⟨s, hs, List.mem_map.mpr ⟨s', hs', rfl⟩⟩
  cases e : pairsM (fun _ : Sg => pcT b y) dsV (pcT a x) with
  | nil => rw [e] at hm; cases hm
  | cons z zs =>
    obtain ⟨m, h1, h2, h3⟩ := minO_ok id z zs
    refine ⟨m, h1, fun u hu v hv => ?_, ?_⟩
    · have : dsV u v ∈ z :: zs := by
        rw [← e]
        exact List.mem_flatMap.mpr ⟨u, hu, List.mem_map.mpr ⟨v, hv, rfl⟩⟩
      exact h2 _ this
    · obtain ⟨w, hw, ew⟩ := h3
      rw [← e] at hw
      obtain ⟨u, hu, hw⟩ := List.mem_flatMap.mp hw
      obtain ⟨v, hv, ev⟩ := List.mem_map.mp hw
      exact ⟨u, hu, v, hv, by rw [ew, ev]; rfl⟩
/-- how many ticks are quiet -/
structure QtOk (ru : RuV) (a b : Trk) (k q : Int) : Prop where
  nn : 0 ≤ q
  z : q = 0 → spT ru a b k = false
  p : ∀ j, 0 ≤ j → j < q → k + j < (ctV a b).2 → spT ru a b (k + j) = true
theorem qt_one {ru : RuV} {a b : Trk} {k : Int} {x y : B4} (hx : boxAt a k = some x) (hy : boxAt b k = some y) (h : x.2.1 < 0 ∨ y.2.1 < 0 ∨ abV ru x y = true) : QtOk ru a b k 1 := by
  refine ⟨by decide, fun z => absurd z (by decide), fun j h0 h1 h2 => ?_⟩
  have e : j = 0 := by omega
  subst e
  rw [Int.add_zero]
  unfold spT
  rw [hx, hy]
  show spV ru x _ y _ = true
  unfold spV
  rcases h with h | h | h
  · rw [pcT_neg h]
    simp
  · rw [pcT_neg h]
    simp
  · rw [h]
    rfl
theorem qt_gap {ru : RuV} (hru : RuOk ru) {a b : Trk} (ha : TkOk a) (hb : TkOk b) {k : Int} (k1 : (ctV a b).1 ≤ k) (k2 : k < (ctV a b).2) {x y : B4} (hx : boxAt a k = some x) (hy : boxAt b k = some y) (x0 : 0 ≤ x.2.1) (y0 : 0 ≤ y.2.1) (hab : abV ru x y = false) {g f1 f2 : Int} (hg : GbOk a b x y g) (h1 : FsOk a.2.2 f1) (h2 : FsOk b.2.2 f2) :
    QtOk ru a b k (if g - lateralOf ru - 2 * radiusOf ru < 0 then 0 else 1 + (g - lateralOf ru - 2 * radiusOf ru) / (f1 + f2)) := by
  obtain ⟨_, hl0⟩ := lm_bd hru
  have el : g - lateralOf ru - 2 * radiusOf ru = g - lmV ru := by
    unfold lmV
    omega
  rw [el]
  have o1 := h1.one
  have o2 := h2.one
  obtain ⟨⟨a1, a2⟩, b1, b2⟩ := ct_in k1 k2
  obtain ⟨x', ex, gx⟩ := box_some a1 a2
  obtain ⟨y', ey, gy⟩ := box_some b1 b2
  rw [hx] at ex
  rw [hy] at ey
  cases ex
  cases ey
  have mx_ := List.mem_of_getElem? gx
  have my_ := List.mem_of_getElem? gy
  obtain ⟨lx, bx⟩ := ha.bx x mx_
  obtain ⟨ly, by_⟩ := hb.bx y my_
  by_cases hr : g - lmV ru < 0
  · rw [if_pos hr]
    refine ⟨by decide, fun _ => ?_, fun j h0 h1 => by omega⟩
    unfold spT
    rw [hx, hy]
    show spV ru x _ y _ = false
    unfold spV
    rw [hab, Bool.false_or, Bool.not_eq_false']
    obtain ⟨s, hs, s', hs', e⟩ := hg.ex
    have ps := (pcT_pos ha s hs).pos
    have ps' := (pcT_pos hb s' hs').pos
    have D := ds_ok ps ps'
    have n1 := dist_near sqr_rt ps ps' D
    exact List.any_eq_true.mpr ⟨s, hs, List.any_eq_true.mpr ⟨s', hs', lc_mono ps ps' (by have := D.nn; omega) (by omega) n1⟩⟩
  · rw [if_neg hr]
    have hd0 : 0 ≤ (g - lmV ru) / (f1 + f2) := Int.ediv_nonneg (by omega) (by omega)
    refine ⟨by omega, fun z => absurd z (by omega), fun j j0 j1 j2 => ?_⟩
    have hj : j * (f1 + f2) ≤ g - lmV ru := (Int.le_ediv_iff_mul_le (by omega)).mp (show j ≤ (g - lmV ru) / (f1 + f2) by omega)
    obtain ⟨⟨c1, c2⟩, d1, d2⟩ := ct_in (show (ctV a b).1 ≤ k + j by omega) j2
    obtain ⟨u, eu, gu⟩ := box_some c1 c2
    obtain ⟨v, ev, gv⟩ := box_some d1 d2
    unfold spT
    rw [eu, ev]
    show spV ru u _ v _ = true
    cases hs : spV ru u (pcT a u) v (pcT b v) with
    | true => rfl
    | false =>
      exfalso
      unfold spV at hs
      rw [Bool.or_eq_false_iff, Bool.not_eq_false', List.any_eq_true] at hs
      obtain ⟨_, s, hs1, hs2⟩ := hs
      obtain ⟨s', hs3, hs4⟩ := List.any_eq_true.mp hs2
      have ej : ((j.toNat : Nat) : Int) = j := by omega
      have G1 := grow_to ha h1 gx j.toNat (c := u) (by rw [← gu]; congr 1; omega)
      have G2 := grow_to hb h2 gy j.toNat (c := v) (by rw [← gv]; congr 1; omega)
      rw [ej] at G1 G2
      obtain ⟨s0, q1, s0', q2, q3⟩ := near_shift ha.pc hb.pc G1 G2 lx bx x0 ly by_ y0 hl0 (fun s hs => (pcT_pos ha s hs).pos) (fun s hs => (pcT_pos hb s hs).pos) (fun s hs => (pcT_pos ha s hs).pos) (fun s hs => (pcT_pos hb s hs).pos) hs1 hs3 hs4
      have p1 := (pcT_pos ha s0 q1).pos
      have p2 := (pcT_pos hb s0' q2).pos
      have D := ds_ok p1 p2
      have le := hg.le s0 q1 s0' q2
      have e : j * (f1 + f2) = j * f1 + j * f2 := Int.mul_add _ _ _
      have z1 := Int.mul_nonneg j0 (show 0 ≤ f1 by omega)
      have z2 := Int.mul_nonneg j0 (show 0 ≤ f2 by omega)
      have := lc_mono p1 p2 (l := lmV ru + j * f1 + j * f2) (l' := dsV s0 s0') (by omega) (by omega) q3
      rw [dist_far sqr_rt p1 p2 D] at this
      cases this
/-- the quiet ticks passed by -/
theorem qt_next {ru : RuV} {a b : Trk} {k q : Int} (h : QtOk ru a b k q) (hp : ∀ j, (ctV a b).1 ≤ j → j < k → j < (ctV a b).2 → spT ru a b j = true) : ∀ j, (ctV a b).1 ≤ j → j < k + q → j < (ctV a b).2 → spT ru a b j = true := fun j h1 h2 h3 => by
  rcases Int.lt_or_le j k with z | z
  · exact hp j h1 z h3
  · have := h.p (j - k) (by omega) (by omega) (by omega)
    rw [show k + (j - k) = j by omega] at this
    exact this
end Law
set_option Elab.async false
set_option linter.all false
set_option maxRecDepth 100000
set_option maxHeartbeats 4100000
/-! TkA: tracks, walked (k17). -/
namespace Law
open PySem L2 Evl Sk MP M10
local macro_rules | `(tactic| walk_at "sc") => `(tactic| first | omega | assumption | trivial | (with_reducible exact mulOk) | (with_reducible exact smOk) | (with_reducible exact ⟨by decide, smOk⟩) | decide | rfl | (simp only [List.length_cons, List.length_nil]; decide) | exact divOk (by omega))
section
variable {P : Program} {w : World} {K : PySem.W.Frag} {mg : Str → Option Value} {base : Heap}
abbrev sp_box_at (C : Addr) (K : Fg) : Sp := spF K [] (fCons (rTrk C) (fOne rInt)) (fun x => TkOk x.1) (rOpt rB4) fun x => boxAt x.1 x.2
abbrev N_box_at : List Str := ["track", "tick", "_", "first", "boxes"]
theorem sc_box_at : FnScope N_box_at ["track", "tick"] (defScope s_box_at) := ⟨rfl, rfl, rfl, by decide +kernel, rfl, by decide +kernel, by decide +kernel⟩
theorem ok_box_at (N : Nm K mg) (T : Bt mg) : FnOk P w K mg base CX0 1 N.box_at.f N.box_at.fd ["track", "tick"] (sp_box_at N.cPath K) := by
  refine fn_m N.box_at.F sc_box_at [] fun cdv A outer s G H E x Q fam hp hk => ?_
  obtain ⟨⟨pr, t0, bs⟩, k⟩ := x
  have hp : TkOk (pr, t0, bs) := hp
  have hl := hp.ln
  dsimp only at hl
  show DS _ K ⟨[], _, G, H, []⟩ [some ⟨rTrk N.cPath, (pr, t0, bs)⟩, some ⟨rInt, k⟩, none, none, none] _ (defBody s_box_at) _
  refine s_asg (d_var (ra := rTrk N.cPath) (x := (pr, t0, bs)) 0 (g_tup (gs_cons (g_name 2 (gs_cons (g_name 3 (gs_one (g_name 4 ?_))))))))
  refine s_ifP (x := decide (t0 ≤ k) && decide (k < t0 + (bs.length : Int))) (dt_chainP (d_var (ra := rInt) (x := t0) 3 (d_var (ra := rInt) (x := k) 1 (o_le ⟨rfl, rfl, fun _ => (d_bin (d_var (ra := rInt) (x := t0) 3 (d_callB T.len bt_len (da_one (d_var (ra := rLst rB4) (x := bs) 4 (c_lenL (o_add (o_lt ⟨rfl, rfl⟩))))))))⟩)))) (fun hb => ?_) (fun hb => ?_)
  · rw [Bool.and_eq_true, decide_eq_true_eq, decide_eq_true_eq] at hb
    obtain ⟨b, e1, e2⟩ := box_some (t := (pr, t0, bs)) hb.1 hb.2
    have gg : atI bs (k - t0) = some b := by
      have := atI_nat' e2
      rw [show (((k - t0).toNat : Nat) : Int) = k - t0 by omega] at this
      exact this
    refine s_ret (d_some (d_ix (d_var (ra := rLst rB4) (x := bs) 4 (d_bin (d_var (ra := rInt) (x := k) 1 (d_var (ra := rInt) (x := t0) 3 (o_sub (i_lst gg (hk ⟨rfl, ?_⟩)))))))))
    exact e1.symm
  · refine s_out (s_ret (d_none (hk ⟨rfl, ?_⟩)))
    show none = boxAt (pr, t0, bs) k
    unfold boxAt
    rw [if_neg (fun z => by rw [decide_eq_true z.1, decide_eq_true z.2] at hb; cases hb)]
abbrev sp_common_ticks (C : Addr) (K : Fg) : Sp := spF K [] (fCons (rTrk C) (fOne (rTrk C))) (fun x => TkOk x.1 ∧ TkOk x.2) rPr fun x => ctV x.1 x.2
abbrev N_common_ticks : List Str := ["one", "other"]
theorem sc_common_ticks : FnScope N_common_ticks ["one", "other"] (defScope s_common_ticks) := ⟨rfl, rfl, rfl, by decide +kernel, rfl, by decide +kernel, by decide +kernel⟩
theorem ok_common_ticks (N : Nm K mg) (T : Bt mg) : FnOk P w K mg base CX0 1 N.common_ticks.f N.common_ticks.fd ["one", "other"] (sp_common_ticks N.cPath K) := by
  refine fn_m N.common_ticks.F sc_common_ticks [] fun cdv A outer s G H E x Q fam hp hk => ?_
  obtain ⟨a, b⟩ := x
  show DS _ K ⟨[], _, G, H, []⟩ [some ⟨rTrk N.cPath, a⟩, some ⟨rTrk N.cPath, b⟩] _ (defBody s_common_ticks) _
  refine s_ret (d_tup (da_cons (d_callB T.max bt_max (da_cons (d_ix (d_var (ra := rTrk N.cPath) (x := a) 0 (d_int (i_tup 1 (da_one (d_ix (d_var (ra := rTrk N.cPath) (x := b) 1 (d_int (i_tup 1 (c_max2 (da_one (d_callB T.min bt_min (da_cons (d_bin (d_ix (d_var (ra := rTrk N.cPath) (x := a) 0 (d_int (i_tup 1 (d_callB T.len bt_len (da_one (d_ix (d_var (ra := rTrk N.cPath) (x := a) 0 (d_int (i_tup 2 (c_lenL (o_add (da_one (d_bin (d_ix (d_var (ra := rTrk N.cPath) (x := b) 1 (d_int (i_tup 1 (d_callB T.len bt_len (da_one (d_ix (d_var (ra := rTrk N.cPath) (x := b) 1 (d_int (i_tup 2 (c_lenL (o_add (c_min2 (hk ⟨rfl, rfl⟩))))))))))))))))))))))))))))))))))))))))))))))
/-- a box that is there -/
theorem opt_box {K : Fg} {G : Hp} {v : V} {t : Trk} {k : Int} {b : B4} (e : boxAt t k = some b) (h : (rOpt rB4).rep K G v (boxAt t k)) : rB4.rep K G v b := by
  rw [e] at h
  exact h.2
abbrev sp_fastest (K : Fg) : Sp := sp0 K [] (fOne (rLst rB4)) (fun bs => bs.length ≤ 240 ∧ ∀ (i : Nat) (b c : B4), bs[i]? = some b → bs[i + 1]? = some c → c.2.1 - b.2.1 < 2 ^ 100) rInt fun bs m => FsOk bs m
abbrev N_fastest : List Str := ["boxes", "before", "after"]
theorem sc_fastest : FnScope N_fastest ["boxes"] (defScope s_fastest) := ⟨rfl, rfl, rfl, by decide +kernel, rfl, by decide +kernel, by decide +kernel⟩
theorem ok_fastest (N : Nm K mg) (T : Bt mg) : FnOk P w K mg base CX0 2 N.fastest.f N.fastest.fd ["boxes"] (sp_fastest K) := by
  refine fn_m N.fastest.F sc_fastest [] fun cdv A outer s G H E bs Q fam hp hk => ?_
  obtain ⟨hl, hg⟩ := hp
  have hl : bs.length ≤ 240 := hl
  have z1 : 100000 ≤ sizeLine := by decide
  have hcut : cutL bs (some 1) none = bs.drop 1 := by
    unfold cutL
    have e1 : HT.sIx bs.length 0 (some 1) = min (1 : Int).toNat bs.length := rfl
    have e2 : HT.sIx bs.length bs.length none = bs.length := rfl
    rw [e1, e2]
    by_cases z : bs.length = 0
    · rw [List.eq_nil_of_length_eq_zero z]
      rfl
    · rw [show min (1 : Int).toNat bs.length = 1 by omega]
      exact List.take_of_length_le (by rw [List.length_drop]; omega)
  show DS _ K ⟨[], _, G, H, []⟩ [some ⟨rLst rB4, bs⟩, none, none] _ (defBody s_fastest) _
  refine s_ret (d_callB T.max bt_max (da_one (d_bin (d_lst (ra := rInt) (da_all (d_int (da_all0 ⟨(by walk_at "sc"), (d_lcP (js := [1, 2]) (ra := rTup (fCons rB4 (fOne rB4))) (rb := rInt) (f := fun p : B4 × B4 => p.2.2.1 - p.1.2.1) [("before", 1), ("after", 2)] [1, 2] (fun _ => blkOk_by (N := N_fastest) (sc := defScope s_fastest) (by decide +kernel)) (w_zipL T.zip (d_var (ra := rLst rB4) (x := bs) 0 (d_slice (d_var (ra := rLst rB4) (x := bs) 0 (do_at (d_int (do_no (sl_l ⟨rfl, ?_, fun gg D ys p hpm => ?_, o_cat ?_ (c_maxL ?_ (fun m hm1 hm2 => hk ⟨rfl, ?_⟩))⟩)))))))))⟩)))))))
  · rw [List.length_zip]
    omega
  · refine g_tup (gs_cons (g_name 1 (gs_one (g_name 2 (d_bin (d_ix (d_var (ra := rB4) (x := p.2) 2 (d_int (i_tup 1 (d_ix (d_var (ra := rB4) (x := p.1) 1 (d_int (i_tup 1 (o_sub ⟨rfl, rfl⟩))))))))))))))
  · rw [List.length_map, List.length_zip, List.length_singleton]
    omega
  · rw [List.length_append, List.length_singleton]
    omega
  · rw [hcut] at hm1 hm2
    show FsOk bs m
    refine ⟨hm2 1 (List.mem_append_left _ (List.mem_singleton.mpr rfl)), ?_, fun i b c hb hc => ?_⟩
    · rcases List.mem_append.mp hm1 with z | z
      · rw [List.mem_singleton.mp z]
        decide
      · obtain ⟨p, hp1, hp2⟩ := List.mem_map.mp z
        obtain ⟨i, hi⟩ := List.getElem?_of_mem hp1
        obtain ⟨q1, q2⟩ := List.getElem?_zip_eq_some.mp (show (bs.zip (bs.drop 1))[i]? = some (p.1, p.2) from hi)
        rw [List.getElem?_drop, Nat.add_comm] at q2
        rw [← hp2]
        exact hg i p.1 p.2 q1 q2
    · refine hm2 _ (List.mem_append_right _ (List.mem_map.mpr ⟨(b, c), List.mem_of_getElem? (i := i) (List.getElem?_zip_eq_some.mpr ⟨hb, ?_⟩), rfl⟩))
      rw [List.getElem?_drop, Nat.add_comm]
      exact hc
end
end Law
set_option Elab.async false
set_option linter.all false
set_option maxRecDepth 100000
set_option maxHeartbeats 4100000
/-! TkB: the gap of pieces, quiet ticks, the probe, walked (k17). -/
namespace Law
open PySem L2 Evl Sk MP M10
local macro_rules | `(tactic| walk_at "sc") => `(tactic| first | omega | assumption | trivial | (with_reducible exact mulOk) | (with_reducible exact smOk) | (with_reducible exact ⟨by decide, smOk⟩) | decide | rfl | (simp only [List.length_cons, List.length_nil]; decide) | exact divOk (by omega))
def gpV (x : PR × B4 × PR × B4) : Option Int := minO id (pairsM (fun _ : Sg => pcs (fxOf x.2.2.1.1) x.2.2.1.2 x.2.2.2.1 x.2.2.2.2.1) dsV (pcs (fxOf x.1.1) x.1.2 x.2.1.1 x.2.1.2.1))
section
variable {P : Program} {w : World} {K : PySem.W.Frag} {mg : Str → Option Value} {base : Heap}
abbrev sp_gap_between (C : Addr) (K : Fg) (T : List Addr) : Sp := sp0 K T (fCons (rPath C) (fCons rB4 (fCons (rPath C) (fOne rB4)))) (fun x => ((ChOk x.1.1 ∧ RtV x.1.1 x.1.2) ∧ ChOk x.2.2.1.1 ∧ RtV x.2.2.1.1 x.2.2.1.2) ∧ ∃ m, gpV x = some m) rInt fun x m => gpV x = some m
abbrev N_gap_between : List Str := ["path", "box", "other_path", "other_box", "piece", "other_piece", "one", "other"]
theorem sc_gap_between : FnScope N_gap_between ["path", "box", "other_path", "other_box"] (defScope s_gap_between) := ⟨rfl, rfl, rfl, by decide +kernel, rfl, by decide +kernel, by decide +kernel⟩
theorem ok_gap_between (N : Nm K mg) (T : Bt mg) (Y : Tb0 N base) : FnOk P w K mg base CX0 6 N.gap_between.f N.gap_between.fd ["path", "box", "other_path", "other_box"] (sp_gap_between N.cPath K (tsOf N)) := by
  refine fn_g N.gap_between.F N.gap_betweenT.hc sc_gap_between (tsOf N) fun A outer s G H E x Q fam hp hk => ?_
  obtain ⟨⟨ch, r⟩, b, ⟨ch2, r2⟩, c⟩ := x
  obtain ⟨⟨⟨hc, rt⟩, hc2, rt2⟩, m, hm⟩ := hp
  have hc : ChOk ch := hc
  have rt : RtV ch r := rt
  have hc2 : ChOk ch2 := hc2
  have rt2 : RtV ch2 r2 := rt2
  have p1 := pcs_ok hc rt b.1 b.2.1
  have p2 := pcs_ok hc2 rt2 c.1 c.2.1
  have hm1 : minO id (pairsM (fun _ : Sg => pcs (fxOf ch2) r2 c.1 c.2.1) dsV (pcs (fxOf ch) r b.1 b.2.1)) = some m := hm
  show DS _ K ⟨tsOf N, _, G, H, []⟩ [some ⟨rPath N.cPath, (ch, r)⟩, some ⟨rB4, b⟩, some ⟨rPath N.cPath, (ch2, r2)⟩, some ⟨rB4, c⟩, none, none, none, none] _ (defBody s_gap_between) _
  refine s_set 4 (d_meth N.kPath N.mPath_piece (ok_Path_piece N T) (d_var (ra := rPath N.cPath) (x := (ch, r)) 0 ⟨_, inferInstance, (da_cons (d_ix (d_var (ra := rB4) (x := b) 1 (d_int (i_tup 0 (da_one (d_ix (d_var (ra := rB4) (x := b) 1 (d_int (i_tup 1 (sw_nF rt (fun q1 d1 hd1 hM1 => ?_))))))))))))⟩))
  have hd1 : d1 = piece (fxOf ch) r b.1 b.2.1 := hd1
  subst hd1
  refine s_frz 4 hM1 ?_
  refine s_set 5 (d_meth N.kPath N.mPath_piece (ok_Path_piece N T) (d_var (ra := rPath N.cPath) (x := (ch2, r2)) 2 ⟨_, inferInstance, (da_cons (d_ix (d_var (ra := rB4) (x := c) 3 (d_int (i_tup 0 (da_one (d_ix (d_var (ra := rB4) (x := c) 3 (d_int (i_tup 1 (sw_nF rt2 (fun q2 d2 hd2 hM2 => ?_))))))))))))⟩))
  have hd2 : d2 = piece (fxOf ch2) r2 c.1 c.2.1 := hd2
  subst hd2
  refine s_frz 5 hM2 ?_
  refine s_re (ra := rLst (rTpv rInt)) (x := piece (fxOf ch) r b.1 b.2.1) (rb := rLst rSg) (y := pcs (fxOf ch) r b.1 b.2.1) 4 (fun h => rSgs_of (fun l hl => (pc_ok hc rt _ _ l hl).1) h) ?_
  refine s_re (ra := rLst (rTpv rInt)) (x := piece (fxOf ch2) r2 c.1 c.2.1) (rb := rLst rSg) (y := pcs (fxOf ch2) r2 c.1 c.2.1) 5 (fun h => rSgs_of (fun l hl => (pc_ok hc2 rt2 _ _ l hl).1) h) ?_
  generalize pcs (fxOf ch) r b.1 b.2.1 = ps at p1 hm1
  generalize pcs (fxOf ch2) r2 c.1 c.2.1 = qs at p2 hm1
  refine s_ret (d_gxMin2 (js := [6]) (js2 := [7]) (ra := rSg) (rb := rSg) (l := fun _ => qs) (f := dsV) [("one", 6), ("other", 7)] [6, 7] [7] N.gap_betweenT.P0 (by simp) (by exact tabF Y.gap_between) (fun _ => gxOk_by (N := N_gap_between) (sc := defScope s_gap_between) (by decide +kernel)) T.min (w_lst (d_var (ra := rLst rSg) (x := ps) 4 ⟨rfl, fun gg D ds a ha => g_name 6 ⟨_, inferInstance, w_lst (d_var (ra := rLst rSg) (x := qs) 5 ⟨rfl, rfl, fun gg2 es b hb => g_name 7 (d_call N.distance_down (ok_distance_down N T Y) (da_cons (d_var (ra := rSg) (x := a) 6 (da_one (d_var (ra := rSg) (x := b) 7 (sw_f (by exact ⟨p1 _ ha, p2 _ hb⟩) ⟨rfl, rfl⟩))))))⟩)⟩, m, hm1, hk ⟨rfl, hm⟩⟩)))
abbrev sp_quiet_ticks (C : Addr) (K : Fg) (T : List Addr) : Sp := sp0 K T (fCons rRules (fCons (rTrk C) (fCons (rTrk C) (fCons rInt (fOne rInt))))) (fun x => (RuOk x.1 ∧ TkOk x.2.1 ∧ TkOk x.2.2.1) ∧ ((ctV x.2.1 x.2.2.1).1 ≤ x.2.2.2.1 ∧ x.2.2.2.1 < (ctV x.2.1 x.2.2.1).2) ∧ ∃ f1 f2, FsOk x.2.1.2.2 f1 ∧ FsOk x.2.2.1.2.2 f2 ∧ x.2.2.2.2 = f1 + f2) rInt fun x q => QtOk x.1 x.2.1 x.2.2.1 x.2.2.2.1 q
abbrev N_quiet_ticks : List Str := ["rules", "one", "other", "tick", "speed", "box", "other_box", "room"]
theorem sc_quiet_ticks : FnScope N_quiet_ticks ["rules", "one", "other", "tick", "speed"] (defScope s_quiet_ticks) := ⟨rfl, rfl, rfl, by decide +kernel, rfl, by decide +kernel, by decide +kernel⟩
theorem ok_quiet_ticks (N : Nm K mg) (T : Bt mg) (Y : Tb0 N base) : FnOk P w K mg base CX0 7 N.quiet_ticks.f N.quiet_ticks.fd ["rules", "one", "other", "tick", "speed"] (sp_quiet_ticks N.cPath K (tsOf N)) := by
  refine fn_m N.quiet_ticks.F sc_quiet_ticks (tsOf N) fun cdv A outer s G H E x Q fam hp hk => ?_
  obtain ⟨ru, a, b, k, sp⟩ := x
  obtain ⟨⟨hru, ha, hb⟩, ⟨k1, k2⟩, f1, f2, hf1, hf2, esp⟩ := hp
  have hru : RuOk ru := hru
  have ha : TkOk a := ha
  have hb : TkOk b := hb
  have k1 : (ctV a b).1 ≤ k := k1
  have k2 : k < (ctV a b).2 := k2
  have hf1 : FsOk a.2.2 f1 := hf1
  have hf2 : FsOk b.2.2 f2 := hf2
  have esp : sp = f1 + f2 := esp
  have o1 := hf1.one
  have o2 := hf2.one
  have l1 := hf1.lt
  have l2 := hf2.lt
  have i1 : Bd 100 f1 := Bd.of (by omega) l1
  have i2 : Bd 100 f2 := Bd.of (by omega) l2
  have i3 : Bd 101 sp := by rw [esp]; exact bdAdd i1 i2
  obtain ⟨v1, v2⟩ := hru.rad
  have i4 : Bd 10 (radiusOf ru) := Bd.of (by omega) (by omega)
  obtain ⟨⟨a1, a2⟩, b1, b2⟩ := ct_in k1 k2
  obtain ⟨x, ex, gx⟩ := box_some a1 a2
  obtain ⟨y, ey, gy⟩ := box_some b1 b2
  have mx_ := List.mem_of_getElem? gx
  have my_ := List.mem_of_getElem? gy
  have hk' : ∀ {Γ : Gm} {q : Int}, QtOk ru a b k q → RT K ⟨tsOf N, _, G, H, []⟩ Γ [] rInt q _ := fun {Γ q} h => hk ⟨rfl, h⟩
  clear hk
  show DS _ K ⟨tsOf N, _, G, H, []⟩ [some ⟨rRules, ru⟩, some ⟨rTrk N.cPath, a⟩, some ⟨rTrk N.cPath, b⟩, some ⟨rInt, k⟩, some ⟨rInt, sp⟩, none, none, none] _ (defBody s_quiet_ticks) _
  refine s_set 5 (d_re (x := fun _ _ => True) (ra := rOpt rB4) (rc := rB4) (d_call N.box_at (ok_box_at N T) (da_cons (d_var (ra := rTrk N.cPath) (x := a) 1 (da_one (d_var (ra := rInt) (x := k) 3 (sw_f (by exact ha) ⟨x, opt_box ex, ?_⟩)))))))
  refine s_set 6 (d_re (x := fun _ _ => True) (ra := rOpt rB4) (rc := rB4) (d_call N.box_at (ok_box_at N T) (da_cons (d_var (ra := rTrk N.cPath) (x := b) 2 (da_one (d_var (ra := rInt) (x := k) 3 (sw_f (by exact hb) ⟨y, opt_box ey, ?_⟩)))))))
  refine s_ifP (x := decide (x.2.1 < 0) || (decide (y.2.1 < 0) || abV ru x y)) (dt_bool (dp_orP (dt_cmp (d_ix (d_var (ra := rB4) (x := x) 5 (d_int (i_tup 1 (d_int (o_lt ⟨rfl, rfl⟩))))))) (fun _ => (dp_orP (dt_cmp (d_ix (d_var (ra := rB4) (x := y) 6 (d_int (i_tup 1 (d_int (o_lt ⟨rfl, rfl⟩))))))) (fun _ => (dp_or1 (dt_val (d_call N.are_above (ok_are_above N T) (da_cons (d_var (ra := rRules) (x := ru) 0 (da_cons (d_var (ra := rB4) (x := x) 5 (da_one (d_var (ra := rB4) (x := y) 6 (sw_f (by exact hru) ⟨rfl, rfl⟩))))))))))))))) (fun hz => ?_) (fun hz => ?_)
  · refine s_ret (d_int (hk' (qt_one ex ey ?_)))
    rw [Bool.or_eq_true, Bool.or_eq_true, decide_eq_true_eq, decide_eq_true_eq] at hz
    exact hz
  rw [Bool.or_eq_false_iff, Bool.or_eq_false_iff, decide_eq_false_iff_not, decide_eq_false_iff_not] at hz
  obtain ⟨x0, y0, hab⟩ := hz
  refine s_out ?_
  obtain ⟨m, hm, hgb⟩ := gp_min ha hb mx_ my_ (by omega) (by omega)
  refine s_set 7 (d_bin (d_bin (d_call N.gap_between (ok_gap_between N T Y) (da_cons (d_ix (d_var (ra := rTrk N.cPath) (x := a) 1 (d_int (i_tup 0 (da_cons (d_var (ra := rB4) (x := x) 5 (da_cons (d_ix (d_var (ra := rTrk N.cPath) (x := b) 2 (d_int (i_tup 0 (da_one (d_var (ra := rB4) (x := y) 6 (sw_0 (by exact ⟨⟨⟨ha.ch, ha.rt⟩, hb.ch, hb.rt⟩, m, hm⟩) (fun g hg => (d_recP 0 0 rfl ruN_nd (o_sub (d_bin (d_int (d_recP 0 2 rfl ruN_nd (o_mul (by exact mulOk) (o_sub ?_))))))))))))))))))))))))))
  have eg : g = m := Option.some.inj ((show some g = gpV (a.1, x, b.1, y) from hg.symm).trans hm)
  subst eg
  have hq := qt_gap hru ha hb k1 k2 ex ey (by omega) (by omega) hab hgb hf1 hf2
  rw [← esp] at hq
  show DS _ K _ [_, _, _, _, _, _, _, some ⟨rInt, g - lateralOf ru - 2 * radiusOf ru⟩] _ _ _
  generalize g - lateralOf ru - 2 * radiusOf ru = rm at hq
  refine s_ret (d_iteP (dt_cmp (d_var (ra := rInt) (x := rm) 7 (d_int (o_lt ⟨rfl, rfl⟩)))) (fun hz => (d_int (hk' ?_))) (fun hz => (d_bin (d_int (d_bin (d_var (ra := rInt) (x := rm) 7 (d_var (ra := rInt) (x := sp) 4 (o_div (@divOk 101 _ _ i3 (by omega) (by decide)) (o_add (hk' ?_))))))))))
  · rw [if_pos (of_decide_eq_true hz)] at hq
    exact hq
  · rw [if_neg (of_decide_eq_false hz)] at hq
    exact hq
abbrev sp_probe (C : Addr) (K : Fg) (T : List Addr) : Sp := sp0 K T (fCons rRules (fCons (rTrk C) (fOne (rTrk C)))) (fun x => RuOk x.1 ∧ TkOk x.2.1 ∧ TkOk x.2.2) (rOpt rInt) fun x y => FcOk x.1 x.2.1 x.2.2 y
abbrev N_probe : List Str := ["rules", "one", "other", "tick", "end", "speed", "quiet"]
theorem sc_probe : FnScope N_probe ["rules", "one", "other"] (defScope s_probe) := ⟨rfl, rfl, rfl, by decide +kernel, rfl, by decide +kernel, by decide +kernel⟩
theorem ok_probe (N : Nm K mg) (T : Bt mg) (Y : Tb0 N base) : FnOk P w K mg base CX0 8 N.probe.f N.probe.fd ["rules", "one", "other"] (sp_probe N.cPath K (tsOf N)) := by
  refine fn_m N.probe.F sc_probe (tsOf N) fun cdv A outer s G H E x Q fam hp hk => ?_
  obtain ⟨ru, a, b⟩ := x
  obtain ⟨hru, ha, hb⟩ := hp
  have hru : RuOk ru := hru
  have ha : TkOk a := ha
  have hb : TkOk b := hb
  have hk' : ∀ {Γ : Gm} {y : Option Int}, FcOk ru a b y → RT K ⟨tsOf N, _, G, H, []⟩ Γ [] (rOpt rInt) y _ := fun {Γ y} h => hk ⟨rfl, h⟩
  clear hk
  show DS _ K ⟨tsOf N, _, G, H, []⟩ [some ⟨rRules, ru⟩, some ⟨rTrk N.cPath, a⟩, some ⟨rTrk N.cPath, b⟩, none, none, none, none] _ (defBody s_probe) _
  refine s_asg (d_call N.common_ticks (ok_common_ticks N T) (da_cons (d_var (ra := rTrk N.cPath) (x := a) 1 (da_one (d_var (ra := rTrk N.cPath) (x := b) 2 (sw_f (by exact ⟨ha, hb⟩) (g_tup (gs_cons (g_name 3 (gs_one (g_name 4 ?_)))))))))))
  dsimp only
  refine s_set 5 (d_bin (d_call N.fastest (ok_fastest N T) (da_one (d_ix (d_var (ra := rTrk N.cPath) (x := a) 1 (d_int (i_tup 2 (sw_0 (by exact ⟨ha.ln, fun i b c h1 h2 => (ha.gr i b c h1 h2).2⟩) (fun f1 hf1 => (d_call N.fastest (ok_fastest N T) (da_one (d_ix (d_var (ra := rTrk N.cPath) (x := b) 2 (d_int (i_tup 2 (sw_0 (by exact ⟨hb.ln, fun i b c h1 h2 => (hb.gr i b c h1 h2).2⟩) (fun f2 hf2 => (o_add ?_))))))))))))))))))
  have hf1 : FsOk a.2.2 f1 := hf1
  have hf2 : FsOk b.2.2 f2 := hf2
  refine s_while (δ := Int) (fun k => (ctV a b).1 ≤ k ∧ ∀ j, (ctV a b).1 ≤ j → j < k → j < (ctV a b).2 → spT ru a b j = true) (fun k => ((ctV a b).2 - k).toNat) (fun k => [some ⟨rRules, ru⟩, some ⟨rTrk N.cPath, a⟩, some ⟨rTrk N.cPath, b⟩, some ⟨rInt, k⟩, some ⟨rInt, (ctV a b).2⟩, some ⟨rInt, f1 + f2⟩, none]) (fun _ => []) (ctV a b).1 ⟨Int.le_refl _, fun j h1 h2 => by omega⟩ ⟨rfl, rfl, rfl, rfl, rfl, rfl, trivial⟩ rfl fun k hd => ?_
  obtain ⟨hk1, hk2⟩ := hd
  refine dt_then (x := decide (k < (ctV a b).2)) (dt_cmp (d_var (ra := rInt) (x := k) 3 (d_var (ra := rInt) (x := (ctV a b).2) 4 (o_lt ⟨rfl, rfl⟩)))) ⟨fun hz => ?_, fun hz => ?_⟩
  · have hz := of_decide_eq_true hz
    refine s_set 6 (d_call N.quiet_ticks (ok_quiet_ticks N T Y) (da_cons (d_var (ra := rRules) (x := ru) 0 (da_cons (d_var (ra := rTrk N.cPath) (x := a) 1 (da_cons (d_var (ra := rTrk N.cPath) (x := b) 2 (da_cons (d_var (ra := rInt) (x := k) 3 (da_one (d_var (ra := rInt) (x := f1 + f2) 5 (sw_0 (by exact ⟨⟨hru, ha, hb⟩, ⟨hk1, hz⟩, f1, f2, hf1, hf2, rfl⟩) (fun q hq => ?_)))))))))))))
    have hq : QtOk ru a b k q := hq
    refine s_ifP (x := decide (q = 0)) (dt_cmp (d_var (ra := rInt) (x := q) 6 (d_int (o_eqI ⟨rfl, rfl⟩)))) (fun hy => ?_) (fun hy => ?_)
    · refine s_ret (d_some (d_var (ra := rInt) (x := k) 3 (hk' (y := some k) ⟨⟨hk1, hz⟩, hq.z (of_decide_eq_true hy), fun j h1 h2 => hk2 j h1 h2 (by omega)⟩)))
    · have hy := of_decide_eq_false hy
      have h0 := hq.nn
      refine s_out ?_
      refine s_aug (x := k) 3 ip_add (d_var (ra := rInt) (x := q) 6 ?_)
      exact s_next (k + q) ⟨⟨by omega, qt_next hq hk2⟩, by omega⟩ ⟨rfl, rfl, rfl, rfl, rfl, rfl, trivial⟩ rfl
  · have hz := of_decide_eq_false hz
    refine s_ret (d_none (hk' (y := none) fun j h1 h2 => hk2 j h1 (by omega) h2))
end
end Law
set_option Elab.async false
set_option linter.all false
set_option maxRecDepth 100000
set_option maxHeartbeats 4100000
/-! ClA: landings, clashes, occupied sectors: the program's, walked (k25). -/
namespace Law
open PySem L2 Evl Sk MP M10
local macro_rules | `(tactic| walk_at "sc") => `(tactic| first | omega | assumption | trivial | (with_reducible exact mulOk) | (with_reducible exact smOk) | (with_reducible exact ⟨by decide, smOk⟩) | decide | rfl | (simp only [List.length_cons, List.length_nil]; decide) | exact divOk (by omega))
abbrev Gap := List (List Int)
abbrev Arr := Int × Int × Int
abbrev rRow5 : Rp (List Int) := rTpv rInt
abbrev rGap : Rp Gap := rTpv rRow5
abbrev rArr : Rp Arr := rTup (fCons rInt (fCons rInt (fOne rInt)))
def gpA (g : Gap) (i j : Int) : Int := (g.getD i.toNat []).getD j.toNat 0
abbrev Wk4 (i : Int) : Prop := 0 ≤ i ∧ i < 4
structure GapOk (g : Gap) : Prop where
  l : g.length = 4
  r : ∀ row ∈ g, row.length = 4
theorem getD_at {α : Type} {xs : List α} {k : Nat} {d : α} (h : k < xs.length) : xs[k]? = some (xs.getD k d) := by
  rw [List.getD_eq_getElem?_getD, List.getElem?_eq_getElem h]
  rfl
theorem gap_row {g : Gap} (hg : GapOk g) {i : Int} (hi : Wk4 i) : atI g i = some (g.getD i.toNat []) := atI_int hi.1 (getD_at (by rw [hg.l]; omega))
theorem gap_at {g : Gap} (hg : GapOk g) {i j : Int} (hi : Wk4 i) (hj : Wk4 j) : atI (g.getD i.toNat []) j = some (gpA g i j) := by
  have h1 : g[i.toNat]? = some (g.getD i.toNat []) := getD_at (by rw [hg.l]; omega)
  have h2 := hg.r _ (List.mem_of_getElem? h1)
  exact atI_int hj.1 (getD_at (by rw [h2]; omega))
def apA (g : Gap) (a b : Arr) : Bool := decide (b.2.1 - a.2.2 ≥ gpA g a.1 b.1) || decide (a.2.1 - b.2.2 ≥ gpA g b.1 a.1)
theorem RuOk.gap {ru : RuV} (h : RuOk ru) : GapOk (gapsOf ru) := ⟨h.gl, fun row hr => (h.gs row hr).1⟩
abbrev Ofr := Int × Str × Trk
abbrev rOf (C : Addr) : Rp Ofr := rTup (fCons rInt (fCons rStr (fOne (rTrk C))))
abbrev rTx : Rp (Str × Int) := rTup (fCons rStr (fOne rInt))
structure OfOk (o : Ofr) : Prop where
  wk : Wk4 o.1
  tk : TkOk o.2.2
def winT (t : Trk) : Int × Int := win (tot (fxOf t.1.1) t.1.2) t.2.1 t.2.2
def lnV (o : Ofr) : Arr := (o.1, (winT o.2.2).1, (winT o.2.2).2)
def wcV (ru : RuV) (a b : Ofr) : Option (Str × Int) := if a.2.1 = "" ∨ a.2.1 ≠ b.2.1 then none else if apA (gapsOf ru) (lnV a) (lnV b) = true then none else some ("wake", mx (lnV a).2.1 (lnV b).2.1)
def ClOk (ru : RuV) (a b : Ofr) (y : Option (Str × Int)) : Prop := ∃ f, FcOk ru a.2.2 b.2.2 f ∧ y = match f with
  | some k => some ("near", k)
  | none => wcV ru a b
def ocV (t : Trk) (sec : Str) (k : Int) : Bool := match boxAt t k with
  | none => false
  | some x => if x.2.1 < 0 ∨ x.1 ≥ tot (fxOf t.1.1) t.1.2 then false else
    (rgI (la (fxOf t.1.1) t.1.2 (mx x.1 0) : Int) 1 ((la (fxOf t.1.1) t.1.2 (mn x.2.1 (tot (fxOf t.1.1) t.1.2 - 1)) : Int) + 1 - (la (fxOf t.1.1) t.1.2 (mx x.1 0) : Int)).toNat).any fun i => decide ((lgAt (lgOf t.1.1) t.1.2 i.toNat).2.2.1 = sec)
section
variable {P : Program} {w : World} {K : PySem.W.Frag} {mg : Str → Option Value} {base : Heap}
abbrev sp_apart (K : Fg) : Sp := spF K [] (fCons rGap (fCons rArr (fOne rArr))) (fun x => GapOk x.1 ∧ Wk4 x.2.1.1 ∧ Wk4 x.2.2.1) rBool fun x => apA x.1 x.2.1 x.2.2
abbrev N_apart : List Str := ["gaps", "first", "second"]
theorem sc_apart : FnScope N_apart ["gaps", "first", "second"] (defScope s_apart) := ⟨rfl, rfl, rfl, by decide +kernel, rfl, by decide +kernel, by decide +kernel⟩
theorem ok_apart (N : Nm K mg) (T : Bt mg) : FnOk P w K mg base CX0 1 N.apart.f N.apart.fd ["gaps", "first", "second"] (sp_apart K) := by
  refine fn_m N.apart.F sc_apart [] fun cdv A outer s G H E x Q fam hp hk => ?_
  obtain ⟨g, a, b⟩ := x
  obtain ⟨hg, ha, hb⟩ := hp
  dsimp only at hg ha hb
  have hk' : ∀ {Γ : Gm} {y : Bool}, apA g a b = y → RT K ⟨[], _, G, H, []⟩ Γ [] rBool y _ := fun {Γ y} e => hk ⟨rfl, e.symm⟩
  clear hk
  show DS _ K ⟨[], _, G, H, []⟩ [some ⟨rGap, g⟩, some ⟨rArr, a⟩, some ⟨rArr, b⟩] _ (defBody s_apart) _
  refine s_ifP (x := decide (b.2.1 - a.2.2 ≥ gpA g a.1 b.1)) (dt_cmp (d_bin (d_ix (d_var (ra := rArr) (x := b) 2 (d_int (i_tup 1 (d_ix (d_var (ra := rArr) (x := a) 1 (d_int (i_tup 2 (o_sub (d_ix (d_ix (d_var (ra := rGap) (x := g) 0 (d_ix (d_var (ra := rArr) (x := a) 1 (d_int (i_tup 0 (i_tpv (gap_row hg ha) (d_ix (d_var (ra := rArr) (x := b) 2 (d_int (i_tup 0 (i_tpv (gap_at hg ha hb) (o_ge ⟨rfl, rfl⟩))))))))))))))))))))))))) (fun h => ?_) (fun h => s_out ?_)
  · refine s_ret (d_bl (hk' ?_))
    unfold apA
    rw [h]
    rfl
  · refine s_ret (d_cmp (d_bin (d_ix (d_var (ra := rArr) (x := a) 1 (d_int (i_tup 1 (d_ix (d_var (ra := rArr) (x := b) 2 (d_int (i_tup 2 (o_sub (d_ix (d_ix (d_var (ra := rGap) (x := g) 0 (d_ix (d_var (ra := rArr) (x := b) 2 (d_int (i_tup 0 (i_tpv (gap_row hg hb) (d_ix (d_var (ra := rArr) (x := a) 1 (d_int (i_tup 0 (i_tpv (gap_at hg hb ha) (o_ge (hk' ?_))))))))))))))))))))))))))
    unfold apA
    rw [h]
    rfl
abbrev sp_landing_of (C : Addr) (K : Fg) : Sp := spF K [] (fOne (rOf C)) OfOk rArr lnV
abbrev N_landing_of : List Str := ["offer", "wake", "_", "track", "path", "tick", "boxes", "earliest", "latest"]
theorem sc_landing_of : FnScope N_landing_of ["offer"] (defScope s_landing_of) := ⟨rfl, rfl, rfl, by decide +kernel, rfl, by decide +kernel, by decide +kernel⟩
theorem ok_landing_of (N : Nm K mg) (T : Bt mg) : FnOk P w K mg base CX0 3 N.landing_of.f N.landing_of.fd ["offer"] (sp_landing_of N.cPath K) := by
  refine fn_m N.landing_of.F sc_landing_of [] fun cdv A outer s G H E x Q fam hp hk => ?_
  obtain ⟨wk, rw_, ⟨pr, t, bs⟩⟩ := x
  have hp : OfOk (wk, rw_, (pr, t, bs)) := hp
  have rt : RtV pr.1 pr.2 := hp.tk.rt
  show DS _ K ⟨[], _, G, H, []⟩ [some ⟨rOf N.cPath, (wk, rw_, (pr, t, bs))⟩, none, none, none, none, none, none, none, none] _ (defBody s_landing_of) _
  refine s_asg (d_var (ra := rOf N.cPath) (x := (wk, rw_, (pr, t, bs))) 0 (g_tup (gs_cons (g_name 1 (gs_cons (g_name 2 (gs_one (g_name 3 ?_))))))))
  refine s_asg (d_var (ra := rTrk N.cPath) (x := (pr, t, bs)) 3 (g_tup (gs_cons (g_name 4 (gs_cons (g_name 5 (gs_one (g_name 6 ?_))))))))
  refine s_asg (d_call N.window (ok_window N T) (da_cons (d_var (ra := rPath N.cPath) (x := pr) 4 (da_cons (d_var (ra := rInt) (x := t) 5 (da_one (d_var (ra := rLst rB4) (x := bs) 6 (sw_f rt (g_tup (gs_cons (g_name 7 (gs_one (g_name 8 ?_)))))))))))))
  refine s_ret (d_tup (da_cons (d_var (ra := rInt) (x := wk) 1 (da_cons (d_var 7 (da_one (d_var 8 (hk ⟨rfl, rfl⟩))))))))
abbrev sp_wake_clash (C : Addr) (K : Fg) : Sp := spF K [] (fCons rRules (fCons (rOf C) (fOne (rOf C)))) (fun x => RuOk x.1 ∧ OfOk x.2.1 ∧ OfOk x.2.2) (rOpt rTx) fun x => wcV x.1 x.2.1 x.2.2
abbrev N_wake_clash : List Str := ["rules", "one", "other", "first", "second"]
theorem sc_wake_clash : FnScope N_wake_clash ["rules", "one", "other"] (defScope s_wake_clash) := ⟨rfl, rfl, rfl, by decide +kernel, rfl, by decide +kernel, by decide +kernel⟩
theorem ok_wake_clash (N : Nm K mg) (T : Bt mg) : FnOk P w K mg base CX0 4 N.wake_clash.f N.wake_clash.fd ["rules", "one", "other"] (sp_wake_clash N.cPath K) := by
  refine fn_m N.wake_clash.F sc_wake_clash [] fun cdv A outer s G H E x Q fam hp hk => ?_
  obtain ⟨ru, a, b⟩ := x
  obtain ⟨hru, ha, hb⟩ := hp
  have hru : RuOk ru := hru
  have ha : OfOk a := ha
  have hb : OfOk b := hb
  have hk' : ∀ {Γ : Gm} {y : Option (Str × Int)}, wcV ru a b = y → RT K ⟨[], _, G, H, []⟩ Γ [] (rOpt rTx) y _ := fun {Γ y} e => hk ⟨rfl, e.symm⟩
  clear hk
  unfold wcV at hk'
  show DS _ K ⟨[], _, G, H, []⟩ [some ⟨rRules, ru⟩, some ⟨rOf N.cPath, a⟩, some ⟨rOf N.cPath, b⟩, none, none] _ (defBody s_wake_clash) _
  refine s_ifP (x := decide (a.2.1 = "") || !decide (a.2.1 = b.2.1)) (dt_bool (dp_orP (dt_cmp (d_ix (d_var (ra := rOf N.cPath) (x := a) 1 (d_int (i_tup 1 (d_str (o_eqS ⟨rfl, rfl⟩))))))) (fun _ => (dp_or1 (dt_cmp (d_ix (d_var (ra := rOf N.cPath) (x := a) 1 (d_int (i_tup 1 (d_ix (d_var (ra := rOf N.cPath) (x := b) 2 (d_int (i_tup 1 (o_neS ⟨rfl, rfl⟩)))))))))))))) (fun hz => ?_) (fun hz => s_out ?_)
  · refine s_ret (d_none (hk' ?_))
    rw [if_pos]
    rw [Bool.or_eq_true, decide_eq_true_eq, Bool.not_eq_true', decide_eq_false_iff_not] at hz
    exact hz
  rw [Bool.or_eq_false_iff, decide_eq_false_iff_not, Bool.not_eq_false', decide_eq_true_eq] at hz
  rw [if_neg (fun z => z.elim hz.1 fun z => z hz.2)] at hk'
  refine s_set 3 (d_call N.landing_of (ok_landing_of N T) (da_one (d_var (ra := rOf N.cPath) (x := a) 1 (sw_f (by exact ha) ?_))))
  refine s_set 4 (d_call N.landing_of (ok_landing_of N T) (da_one (d_var (ra := rOf N.cPath) (x := b) 2 (sw_f (by exact hb) ?_))))
  refine s_ifP (x := apA (gapsOf ru) (lnV a) (lnV b)) (dt_val (d_call N.apart (ok_apart N T) (da_cons (d_recP 0 11 rfl ruN_nd (da_cons (d_var (ra := rArr) (x := lnV a) 3 (da_one (d_var (ra := rArr) (x := lnV b) 4 (sw_f (by exact ⟨hru.gap, ha.wk, hb.wk⟩) ⟨rfl, rfl⟩))))))))) (fun hy => ?_) (fun hy => s_out ?_)
  · refine s_ret (d_none (hk' ?_))
    rw [if_pos hy]
  · rw [if_neg (by rw [hy]; decide)] at hk'
    refine s_ret (d_some (d_tup (da_cons (d_str (da_one (d_callB T.max bt_max (da_cons (d_ix (d_var (ra := rArr) (x := lnV a) 3 (d_int (i_tup 1 (da_one (d_ix (d_var (ra := rArr) (x := lnV b) 4 (d_int (i_tup 1 (c_max2 (hk' rfl))))))))))))))))))
abbrev sp_clash (C : Addr) (K : Fg) (T : List Addr) : Sp := sp0 K T (fCons rRules (fCons (rOf C) (fOne (rOf C)))) (fun x => RuOk x.1 ∧ OfOk x.2.1 ∧ OfOk x.2.2) (rOpt rTx) fun x y => ClOk x.1 x.2.1 x.2.2 y
abbrev N_clash : List Str := ["rules", "one", "other", "tick"]
theorem sc_clash : FnScope N_clash ["rules", "one", "other"] (defScope s_clash) := ⟨rfl, rfl, rfl, by decide +kernel, rfl, by decide +kernel, by decide +kernel⟩
theorem ok_clash (N : Nm K mg) (T : Bt mg) (Y : Tb0 N base) : FnOk P w K mg base CX0 9 N.clash.f N.clash.fd ["rules", "one", "other"] (sp_clash N.cPath K (tsOf N)) := by
  refine fn_m N.clash.F sc_clash (tsOf N) fun cdv A outer s G H E x Q fam hp hk => ?_
  obtain ⟨ru, a, b⟩ := x
  obtain ⟨hru, ha, hb⟩ := hp
  have hru : RuOk ru := hru
  have ha : OfOk a := ha
  have hb : OfOk b := hb
  have hk' : ∀ {Γ : Gm} {y : Option (Str × Int)}, ClOk ru a b y → RT K ⟨tsOf N, _, G, H, []⟩ Γ [] (rOpt rTx) y _ := fun {Γ y} e => hk ⟨rfl, e⟩
  clear hk
  show DS _ K ⟨tsOf N, _, G, H, []⟩ [some ⟨rRules, ru⟩, some ⟨rOf N.cPath, a⟩, some ⟨rOf N.cPath, b⟩, none] _ (defBody s_clash) _
  refine s_set 3 (d_call N.probe (ok_probe N T Y) (da_cons (d_var (ra := rRules) (x := ru) 0 (da_cons (d_ix (d_var (ra := rOf N.cPath) (x := a) 1 (d_int (i_tup 2 (da_one (d_ix (d_var (ra := rOf N.cPath) (x := b) 2 (d_int (i_tup 2 (sw_0 (by exact ⟨hru, ha.tk, hb.tk⟩) (fun f hf => ?_)))))))))))))))
  have hf : FcOk ru a.2.2 b.2.2 f := hf
  cases f with
  | none =>
    refine s_ifP (x := false) (dt_cmp (d_var (ra := rOpt rInt) (x := none) 3 (d_non (o_notN ⟨rfl, rfl⟩)))) (fun h => Bool.noConfusion h) (fun _ => s_out ?_)
    refine s_ret (d_call N.wake_clash (ok_wake_clash N T) (da_cons (d_var (ra := rRules) (x := ru) 0 (da_cons (d_var (ra := rOf N.cPath) (x := a) 1 (da_one (d_var (ra := rOf N.cPath) (x := b) 2 (sw_f (by exact ⟨hru, ha, hb⟩) (hk' ⟨none, hf, rfl⟩)))))))))
  | some k =>
    refine s_ifP (x := true) (dt_cmp (d_var (ra := rOpt rInt) (x := some k) 3 (d_non (o_notN ⟨rfl, rfl⟩)))) (fun _ => ?_) (fun h => Bool.noConfusion h)
    refine s_re (ra := rOpt rInt) (x := some k) (rb := rInt) (y := k) 3 (fun h => h.2) ?_
    refine s_ret (d_some (d_tup (da_cons (d_str (da_one (d_var (ra := rInt) (x := k) 3 (hk' ⟨some k, hf, rfl⟩)))))))
abbrev sp_occupies (C : Addr) (K : Fg) : Sp := spF K [] (fCons (rOf C) (fCons rStr (fOne rInt))) (fun x => OfOk x.1) rBool fun x => ocV x.1.2.2 x.2.1 x.2.2
abbrev N_occupies : List Str := ["offer", "sector", "tick", "path", "box", "first", "last", "index"]
theorem sc_occupies : FnScope N_occupies ["offer", "sector", "tick"] (defScope s_occupies) := ⟨rfl, rfl, rfl, by decide +kernel, rfl, by decide +kernel, by decide +kernel⟩
theorem ok_occupies (N : Nm K mg) (T : Bt mg) : FnOk P w K mg base CX0 3 N.occupies.f N.occupies.fd ["offer", "sector", "tick"] (sp_occupies N.cPath K) := by
  refine fn_m N.occupies.F sc_occupies [] fun cdv A outer s G H E x Q fam hp hk => ?_
  obtain ⟨o, sec, k⟩ := x
  have hp : OfOk o := hp
  have rt := hp.tk.rt
  have z1 : 100000 ≤ sizeLine := by decide
  have hk' : ∀ {Γ : Gm} {y : Bool}, ocV o.2.2 sec k = y → RT K ⟨[], _, G, H, []⟩ Γ [] rBool y _ := fun {Γ y} e => hk ⟨rfl, e.symm⟩
  clear hk
  unfold ocV at hk'
  show DS _ K ⟨[], _, G, H, []⟩ [some ⟨rOf N.cPath, o⟩, some ⟨rStr, sec⟩, some ⟨rInt, k⟩, none, none, none, none, none] _ (defBody s_occupies) _
  refine s_set 3 (d_ix (d_ix (d_var (ra := rOf N.cPath) (x := o) 0 (d_int (i_tup 2 (d_int (i_tup 0 ?_)))))))
  refine s_set 4 (d_call N.box_at (ok_box_at N T) (da_cons (d_ix (d_var (ra := rOf N.cPath) (x := o) 0 (d_int (i_tup 2 (da_one (d_var (ra := rInt) (x := k) 2 (sw_f (by exact hp.tk) ?_)))))))))
  dsimp only
  cases hb : boxAt o.2.2 k with
  | none =>
    rw [hb] at hk'
    refine s_ifP (x := true || false) (dt_bool (dp_orP (dt_cmp (d_var (ra := rOpt rB4) (x := none) 4 (d_non (o_isN ⟨rfl, rfl⟩)))) (fun h => Bool.noConfusion h))) (fun _ => ?_) (fun h => Bool.noConfusion h)
    exact s_ret (d_bl (hk' rfl))
  | some x =>
    rw [hb] at hk'
    dsimp only at hk'
    have hxm : x ∈ o.2.2.2.2 := by
      unfold boxAt at hb
      split at hb
      · exact List.mem_of_getElem? hb
      · cases hb
    obtain ⟨lt, le⟩ := hp.tk.bx x hxm
    refine s_ifP (x := false || (decide (x.2.1 < 0) || decide (x.1 ≥ tot (fxOf o.2.2.1.1) o.2.2.1.2))) (dt_bool (dp_orP (dt_cmp (d_var (ra := rOpt rB4) (x := some x) 4 (d_non (o_isN ⟨rfl, rfl⟩)))) (fun _ => (dp_orP (dt_cmp (d_ix (d_re (x := fun _ _ => True) (ra := rOpt rB4) (rc := rB4) (d_var (ra := rOpt rB4) (x := some x) 4 ⟨x, fun h => h.2, d_int (i_tup 1 (d_int (o_lt ⟨rfl, rfl⟩)))⟩)))) (fun _ => (dp_or1 (dt_cmp (d_ix (d_re (x := fun _ _ => True) (ra := rOpt rB4) (rc := rB4) (d_var (ra := rOpt rB4) (x := some x) 4 ⟨x, fun h => h.2, d_int (i_tup 0 (d_meth0 N.kPath N.mPath_total (ok_Path_total N T) (d_var (ra := rPath N.cPath) (x := o.2.2.1) 3 ⟨_, inferInstance, (sw_f rt (o_ge ⟨rfl, rfl⟩))⟩)))⟩)))))))))) (fun hz => ?_) (fun hz => s_out ?_)
    · refine s_ret (d_bl (hk' ?_))
      rw [if_pos]
      rw [Bool.false_or, Bool.or_eq_true, decide_eq_true_eq, decide_eq_true_eq] at hz
      exact hz
    rw [Bool.false_or, Bool.or_eq_false_iff, decide_eq_false_iff_not, decide_eq_false_iff_not] at hz
    rw [if_neg (fun z => z.elim hz.1 hz.2)] at hk'
    refine s_re (ra := rOpt rB4) (x := some x) (rb := rB4) (y := x) 4 (fun h => h.2) ?_
    have hl1 := Law.la_lt rt.two (fx := fxOf o.2.2.1.1) (mx x.1 0)
    have hl2 := Law.la_lt rt.two (fx := fxOf o.2.2.1.1) (mn x.2.1 (tot (fxOf o.2.2.1.1) o.2.2.1.2 - 1))
    have hlen := rt.len
    refine s_set 5 (d_meth N.kPath N.mPath_leg_at (ok_Path_leg_at N T) (d_var (ra := rPath N.cPath) (x := o.2.2.1) 3 ⟨_, inferInstance, (da_one (d_callB T.max bt_max (da_cons (d_ix (d_var (ra := rB4) (x := x) 4 (d_int (i_tup 0 (da_one (d_int (c_max2 (sw_f rt ?_)))))))))))⟩))
    refine s_set 6 (d_meth N.kPath N.mPath_leg_at (ok_Path_leg_at N T) (d_var (ra := rPath N.cPath) (x := o.2.2.1) 3 ⟨_, inferInstance, (da_one (d_callB T.min bt_min (da_cons (d_ix (d_var (ra := rB4) (x := x) 4 (d_int (i_tup 1 (da_one (d_bin (d_meth0 N.kPath N.mPath_total (ok_Path_total N T) (d_var (ra := rPath N.cPath) (x := o.2.2.1) 3 ⟨_, inferInstance, (sw_f rt (d_int (o_sub (c_min2 (sw_f rt ?_)))))⟩)))))))))))⟩))
    generalize la (fxOf o.2.2.1.1) o.2.2.1.2 (mx x.1 0) = f1 at hl1 hk' ⊢
    generalize la (fxOf o.2.2.1.1) o.2.2.1.2 (mn x.2.1 (tot (fxOf o.2.2.1.1) o.2.2.1.2 - 1)) = f2 at hl2 hk' ⊢
    refine s_ret (d_callB T.any bt_any (da_one (d_lcP (js := [7]) (ra := rInt) (rb := rBool) (f := fun i : Int => decide ((lgAt (lgOf o.2.2.1.1) o.2.2.1.2 i.toNat).2.2.1 = sec)) [("index", 7)] [7] (fun _ => blkOk_by (N := N_occupies) (sc := defScope s_occupies) (by decide +kernel)) (w_rng2 T.range (d_var (ra := rInt) (x := (f1 : Int)) 5 (d_bin (d_var (ra := rInt) (x := (f2 : Int)) 6 (d_int (o_add ⟨(by omega), ⟨rfl, (by rw [rgI_len]; omega), fun gg D ys i hi => (g_name 7 ?_), (c_anyG (hk' ?_))⟩⟩)))))))))
    · obtain ⟨i2, hi2⟩ := List.getElem?_of_mem hi
      obtain ⟨q1, q2⟩ := rgI_item hi2
      refine d_cmp (d_ix (d_meth N.kPath N.mPath_leg (ok_Path_leg N T) (d_var (ra := rPath N.cPath) (x := o.2.2.1) 3 ⟨_, inferInstance, (da_one (d_var (ra := rInt) (x := i) 7 (sw_f ⟨rt, by dsimp only; omega, by dsimp only; omega⟩ (d_int (i_tup 2 (d_var (ra := rStr) (x := sec) 1 (o_eqS ⟨rfl, rfl⟩)))))))⟩)))
    · rw [List.any_map]
      rfl
end
end Law
set_option Elab.async false
set_option linter.all false
set_option maxRecDepth 100000
set_option maxHeartbeats 4100000
/-! ClB: the law's clashes and occupied sectors, walked (k25). -/
namespace Law
open PySem L2 Evl Sk MP M10
local macro_rules | `(tactic| walk_at "sc") => `(tactic| first | omega | assumption | trivial | (with_reducible exact mulOk) | (with_reducible exact smOk) | (with_reducible exact ⟨by decide, smOk⟩) | decide | rfl | (simp only [List.length_cons, List.length_nil]; decide) | exact divOk (by omega))
abbrev Mn := List Str × List Int × Int × List B4 × Int
abbrev rMn : Rp Mn := rHl (fCons (rTpv rStr) (fCons (rLst rInt) (fCons rInt (fCons (rLst rB4) (fOne rInt)))))
def tkM (ch : ChV) (m : Mn) : Trk := ((ch, m.1), m.2.2.1, m.2.2.2.1)
structure MnOk (ch : ChV) (m : Mn) : Prop where
  bs : m.2.1 = begins (fxOf ch) m.1
  tk : TkOk (tkM ch m)
  wk : Wk4 m.2.2.2.2
def rwOf (ch : ChV) : List Str := ch.1.1.2.2.2.1
def lastM (m : Mn) : Str := m.1.getD (m.1.length - 1) ""
def ofM (ch : ChV) (m : Mn) : Ofr := (m.2.2.2.2, if lastM m ∈ rwOf ch then lastM m else "", tkM ch m)
def wkV (ch : ChV) (ru : RuV) (a b : Mn) : Option Int := if lastM a ∉ rwOf ch ∨ lastM a ≠ lastM b then none else if apA (gapsOf ru) (lnV (ofM ch a)) (lnV (ofM ch b)) = true then none else some (mx (lnV (ofM ch a)).2.1 (lnV (ofM ch b)).2.1)
def LcOk (ch : ChV) (ru : RuV) (a b : Mn) (y : Option (Str × Int)) : Prop := ∃ f, FcOk ru (tkM ch a) (tkM ch b) f ∧ y = match f with
  | some k => some ("near", k)
  | none => (wkV ch ru a b).map fun t => ("wake", t)
theorem MnOk.of {ch : ChV} {m : Mn} (h : MnOk ch m) : OfOk (ofM ch m) := ⟨h.wk, h.tk⟩
theorem last_at {ch : ChV} {m : Mn} (h : MnOk ch m) : atI m.1 ((m.1.length : Int) - 1) = some (lastM m) := by
  have h2 : 2 ≤ m.1.length := h.tk.rt.two
  refine atI_int (by omega) ?_
  rw [show ((m.1.length : Int) - 1).toNat = m.1.length - 1 by omega]
  unfold lastM
  exact getD_at (by omega)
theorem tot_at {ch : ChV} {m : Mn} (h : MnOk ch m) : atI m.2.1 ((m.2.1.length : Int) - 1) = some (tot (fxOf ch) m.1) := by
  have h2 : 2 ≤ m.1.length := h.tk.rt.two
  rw [h.bs]
  have hbl := begins_len (fxOf ch) m.1
  refine atI_int (by omega) ?_
  rw [show (((begins (fxOf ch) m.1).length : Int) - 1).toNat = m.1.length - 1 by omega]
  exact bg_get (by omega)
/-- the program's clash is the law's -/
theorem clash_eq {ch : ChV} {ru : RuV} {a b : Mn} (hR : ("" : Str) ∉ rwOf ch) {y z : Option (Str × Int)} (h : ClOk ru (ofM ch a) (ofM ch b) y) (h2 : LcOk ch ru a b z) : y = z := by
  obtain ⟨f, hf, ey⟩ := h
  obtain ⟨g, hg, ez⟩ := h2
  have e : f = g := FcOk.eq hf hg
  subst e
  rw [ey, ez]
  cases f with
  | some k => rfl
  | none =>
    show wcV ru (ofM ch a) (ofM ch b) = (wkV ch ru a b).map _
    unfold wcV wkV
    have ec : ((ofM ch a).2.1 = "" ∨ (ofM ch a).2.1 ≠ (ofM ch b).2.1) ↔ (lastM a ∉ rwOf ch ∨ lastM a ≠ lastM b) := by
      show ((if lastM a ∈ rwOf ch then lastM a else ("" : Str)) = "" ∨ (if lastM a ∈ rwOf ch then lastM a else ("" : Str)) ≠ (if lastM b ∈ rwOf ch then lastM b else ("" : Str))) ↔ _
      by_cases ha : lastM a ∈ rwOf ch
      · rw [if_pos ha]
        have hne : lastM a ≠ "" := fun e => hR (by rw [← e]; exact ha)
        by_cases hb : lastM b ∈ rwOf ch
        · rw [if_pos hb]
          exact ⟨fun z => z.elim (fun e => absurd e hne) .inr, fun z => z.elim (fun e => absurd ha e) .inr⟩
        · rw [if_neg hb]
          exact ⟨fun _ => .inr fun e => hb (by rw [← e]; exact ha), fun _ => .inr hne⟩
      · rw [if_neg ha]
        exact ⟨fun _ => .inl ha, fun _ => .inl rfl⟩
    by_cases hc : lastM a ∉ rwOf ch ∨ lastM a ≠ lastM b
    · rw [if_pos hc, if_pos (ec.mpr hc)]
      rfl
    · rw [if_neg hc, if_neg (fun z => hc (ec.mp z))]
      split <;> rfl
theorem apA_comm (g : Gap) (a b : Arr) : apA g b a = apA g a b := by
  unfold apA
  rw [Bool.or_comm]
theorem lc_comm25 {ch : ChV} {ru : RuV} {a b : Mn} {y : Option (Str × Int)} (h : LcOk ch ru a b y) : LcOk ch ru b a y := by
  obtain ⟨f, hf, e⟩ := h
  refine ⟨f, hf.comm, ?_⟩
  rw [e]
  cases f with
  | some k => rfl
  | none =>
    show (wkV ch ru a b).map _ = (wkV ch ru b a).map _
    congr 1
    unfold wkV
    have ec : (lastM a ∉ rwOf ch ∨ lastM a ≠ lastM b) ↔ (lastM b ∉ rwOf ch ∨ lastM b ≠ lastM a) := by
      by_cases e : lastM a = lastM b
      · rw [e]
      · exact ⟨fun _ => .inr fun z => e z.symm, fun _ => .inr e⟩
    by_cases hc : lastM a ∉ rwOf ch ∨ lastM a ≠ lastM b
    · rw [if_pos hc, if_pos (ec.mp hc)]
    · rw [if_neg hc, if_neg (fun z => hc (ec.mpr z)), apA_comm]
      have em : mx (lnV (ofM ch b)).2.1 (lnV (ofM ch a)).2.1 = mx (lnV (ofM ch a)).2.1 (lnV (ofM ch b)).2.1 := by
        unfold mx
        split <;> split <;> omega
      rw [em]
theorem pc_len25 (fx : Fx) (r : List Str) (lo hi : Int) : (piece fx r lo hi).length ≤ r.length + 1 := by
  unfold piece
  split
  · exact Nat.zero_le _
  · split
    · exact Nat.le_add_left _ _
    · exact Nat.le_trans (segs_len fx r _ _ _) (by omega)
section
variable {P : Program} {w : World} {K : PySem.W.Frag} {mg : Str → Option Value} {base : Heap}
abbrev SpIn := ChV × RuV × Mn × B4 × Mn × B4
abbrev sp_separated (K : Fg) : Sp := spF K [] (fCons rChart (fCons rRules (fCons rMn (fCons rB4 (fCons rMn (fOne rB4)))))) (fun x : SpIn => (ChOk x.1 ∧ RuOk x.2.1) ∧ MnOk x.1 x.2.2.1 ∧ MnOk x.1 x.2.2.2.2.1) rBool fun x => spV x.2.1 x.2.2.2.1 (pcT (tkM x.1 x.2.2.1) x.2.2.2.1) x.2.2.2.2.2 (pcT (tkM x.1 x.2.2.2.2.1) x.2.2.2.2.2)
abbrev N_separated : List Str := ["_law_chart_here", "_law_rules_here", "_law_one", "_law_box", "_law_other", "_law_other_box", "_law_gap", "_law_piece_here", "_law_beside", "_law_limit", "_law_a", "_law_b"]
theorem sc_separated : FnScope N_separated ["_law_chart_here", "_law_rules_here", "_law_one", "_law_box", "_law_other", "_law_other_box"] (defScope s_separated) := ⟨rfl, rfl, rfl, by decide +kernel, rfl, by decide +kernel, by decide +kernel⟩
theorem ok_separated (N : Nm K mg) (T : Bt mg) : FnOk P w K mg base CX0 5 N.separated.f N.separated.fd ["_law_chart_here", "_law_rules_here", "_law_one", "_law_box", "_law_other", "_law_other_box"] (sp_separated K) := by
  refine fn_m N.separated.F sc_separated [] fun cdv A outer s G H E x Q fam hp hk => ?_
  obtain ⟨ch, ru, a, x, b, y⟩ := x
  obtain ⟨⟨hch, hru⟩, ha, hb⟩ := hp
  have hch : ChOk ch := hch
  have hru : RuOk ru := hru
  have ha : MnOk ch a := ha
  have hb : MnOk ch b := hb
  have ra : RtV ch a.1 := ha.tk.rt
  have rb : RtV ch b.1 := hb.tk.rt
  have hk' : ∀ {Γ : Gm} {z : Bool}, spV ru x (pcT (tkM ch a) x) y (pcT (tkM ch b) y) = z → RT K ⟨[], _, G, H, []⟩ Γ [] rBool z _ := fun {Γ z} e => hk ⟨rfl, e.symm⟩
  clear hk
  have z1 : 100000 ≤ sizeLine := by decide
  obtain ⟨hlB, hl0⟩ := lm_bd hru
  obtain ⟨v1, v2⟩ := hru.rad
  obtain ⟨v3, v4⟩ := hru.ban
  have i1 : Bd 10 (radiusOf ru) := Bd.of (by omega) (by omega)
  have i2 : Bd 10 (bandOf ru) := Bd.of (by omega) (by omega)
  have p1 := pcT_pos ha.tk (b := x)
  have p2 := pcT_pos hb.tk (b := y)
  have t1 := ra.len
  have t2 := rb.len
  have l1 : (pcT (tkM ch a) x).length ≤ 100000 := by
    unfold pcT pcs
    rw [List.length_map]
    exact Nat.le_trans (pc_len25 _ _ _ _) (by show a.1.length + 1 ≤ 100000; omega)
  have l2 : (pcT (tkM ch b) y).length ≤ 100000 := by
    unfold pcT pcs
    rw [List.length_map]
    exact Nat.le_trans (pc_len25 _ _ _ _) (by show b.1.length + 1 ≤ 100000; omega)
  show DS _ K ⟨[], _, G, H, []⟩ [some ⟨rChart, ch⟩, some ⟨rRules, ru⟩, some ⟨rMn, a⟩, some ⟨rB4, x⟩, some ⟨rMn, b⟩, some ⟨rB4, y⟩, none, none, none, none, none, none] _ (defBody s_separated) _
  refine s_set 6 (d_callB T.max bt_max (da_cons (d_bin (d_ix (d_var (ra := rB4) (x := x) 3 (d_int (i_tup 2 (d_ix (d_var (ra := rB4) (x := y) 5 (d_int (i_tup 3 (o_sub (da_one (d_bin (d_ix (d_var (ra := rB4) (x := y) 5 (d_int (i_tup 2 (d_ix (d_var (ra := rB4) (x := x) 3 (d_int (i_tup 3 (o_sub (c_max2 ?_))))))))))))))))))))))))
  refine s_ifP (x := abV ru x y) (dt_cmp (d_var 6 (d_bin (d_recP 1 1 rfl ruN_nd (d_bin (d_int (d_recP 1 3 rfl ruN_nd (o_mul (by exact mulOk) (o_add (o_ge ⟨rfl, rfl⟩)))))))))) (fun hz => ?_) (fun hz => s_out ?_)
  · refine s_ret (d_bl (hk' ?_))
    unfold spV
    rw [hz]
    rfl
  refine s_set 7 (d_re (x := fun _ _ => True) (ra := rLst (rTpv rInt)) (rc := rLst rSg) (d_call N.piece (ok_piece N T) (da_cons (d_var (ra := rChart) (x := ch) 0 (da_cons (d_ix (d_var (ra := rMn) (x := a) 2 (d_int (i_hl 0 (da_cons (d_ix (d_var (ra := rMn) (x := a) 2 (d_int (i_hl 1 (da_cons (d_ix (d_var (ra := rB4) (x := x) 3 (d_int (i_tup 0 (da_one (d_ix (d_var (ra := rB4) (x := x) 3 (d_int (i_tup 1 (sw_f ⟨ra, ha.bs⟩ ⟨pcT (tkM ch a) x, rSgs_of (fun l hl => (pc_ok hch ra _ _ l hl).1), ?_⟩)))))))))))))))))))))))))
  refine s_set 8 (d_re (x := fun _ _ => True) (ra := rLst (rTpv rInt)) (rc := rLst rSg) (d_call N.piece (ok_piece N T) (da_cons (d_var (ra := rChart) (x := ch) 0 (da_cons (d_ix (d_var (ra := rMn) (x := b) 4 (d_int (i_hl 0 (da_cons (d_ix (d_var (ra := rMn) (x := b) 4 (d_int (i_hl 1 (da_cons (d_ix (d_var (ra := rB4) (x := y) 5 (d_int (i_tup 0 (da_one (d_ix (d_var (ra := rB4) (x := y) 5 (d_int (i_tup 1 (sw_f ⟨rb, hb.bs⟩ ⟨pcT (tkM ch b) y, rSgs_of (fun l hl => (pc_ok hch rb _ _ l hl).1), ?_⟩)))))))))))))))))))))))))
  refine s_set 9 (d_bin (d_recP 1 0 rfl ruN_nd (d_bin (d_int (d_recP 1 2 rfl ruN_nd (o_mul (by exact mulOk) (o_add ?_)))))))
  generalize pcT (tkM ch a) x = ps at p1 l1 hk' ⊢
  generalize pcT (tkM ch b) y = qs at p2 l2 hk' ⊢
  refine s_ret (d_then (x := !(ps.any fun x => qs.any fun y => lcV x y (lmV ru))) (d_notP (d_callB T.any bt_any (da_one (d_lcP (js := [10]) (ra := rSg) (rb := rBool) (f := fun x => qs.any fun y => lcV x y (lmV ru)) [("_law_a", 10)] [10] (fun _ => blkOk_by (N := N_separated) (sc := defScope s_separated) (by decide +kernel)) (w_lst (d_var (ra := rLst rSg) (x := ps) 7 ⟨rfl, (by omega), fun gg D ys x hx => (g_name 10 (d_callB T.any bt_any (da_one (d_lcP (js := [11]) (ra := rSg) (rb := rBool) (f := fun y => lcV x y (lmV ru)) [("_law_b", 11)] [11] (fun _ => blkOk_in (blkOk_by (N := N_separated) (by decide +kernel))) (w_lst (d_var (ra := rLst rSg) (x := qs) 8 ⟨rfl, (by omega), fun gg D ys y hy => (g_name 11 (d_call N.closer (ok_closer N T) (da_cons (d_var (ra := rSg) (x := x) 10 (da_cons (d_var (ra := rSg) (x := y) 11 (da_one (d_var (ra := rInt) (x := lmV ru) 9 (sw_f (by exact ⟨p1 _ hx, p2 _ hy, hlB⟩) ⟨rfl, rfl⟩))))))))), (c_anyG ⟨by rw [List.any_map] <;> rfl, rfl⟩)⟩)))))), (c_anyG ⟨by rw [List.any_map] <;> rfl, rfl⟩)⟩)))))) ?_)
  refine hk' ?_
  unfold spV
  rw [hz]
  rfl
abbrev sp_law_window (K : Fg) : Sp := spF K [] (fCons rMn (fCons rInt (fOne (rLst rB4)))) (fun x : Mn × Int × List B4 => (∃ ch, MnOk ch x.1 ∧ x.2.1 = x.1.2.2.1 ∧ x.2.2 = x.1.2.2.2.1)) rPr fun x => win ((x.1.2.1.getD (x.1.2.1.length - 1) 0)) x.2.1 x.2.2
abbrev N_law_window : List Str := ["_law_one", "_law_tick", "_law_boxes", "_law_total", "_law_k"]
theorem sc_law_window : FnScope N_law_window ["_law_one", "_law_tick", "_law_boxes"] (defScope s_law_window) := ⟨rfl, rfl, rfl, by decide +kernel, rfl, by decide +kernel, by decide +kernel⟩
theorem ok_law_window (N : Nm K mg) (T : Bt mg) : FnOk P w K mg base CX0 1 N.law_window.f N.law_window.fd ["_law_one", "_law_tick", "_law_boxes"] (sp_law_window K) := by
  refine fn_m N.law_window.F sc_law_window [] fun cdv A outer s G H E x Q fam hp hk => ?_
  obtain ⟨m, t, bs⟩ := x
  obtain ⟨ch, hm, e1, e2⟩ := hp
  have hm : MnOk ch m := hm
  have e2 : bs = m.2.2.2.1 := e2
  have hl : bs.length ≤ 240 := by
    rw [e2]
    exact hm.tk.ln
  have ht := tot_at hm
  have egd : m.2.1.getD (m.2.1.length - 1) 0 = tot (fxOf ch) m.1 := by
    have h2 : 2 ≤ m.1.length := hm.tk.rt.two
    rw [hm.bs]
    have hbl := begins_len (fxOf ch) m.1
    rw [hbl]
    have := bg_get (fx := fxOf ch) (r := m.1) (k := m.1.length - 1) (by omega)
    rw [List.getD_eq_getElem?_getD, this]
    rfl
  generalize tot (fxOf ch) m.1 = tt at ht egd
  have hk' : ∀ {Γ : Gm} {y : Int × Int}, y = (winE tt t bs, t + (bs.length : Int)) → RT K ⟨[], _, G, H, []⟩ Γ [] rPr y _ := fun {Γ y} e => hk ⟨rfl, by
    show y = win (m.2.1.getD (m.2.1.length - 1) 0) t bs
    rw [egd]
    exact e⟩
  clear hk
  show DS _ K ⟨[], _, G, H, []⟩ [some ⟨rMn, m⟩, some ⟨rInt, t⟩, some ⟨rLst rB4, bs⟩, none, none] [] (defBody s_law_window) _
  refine s_set 3 (d_ix (d_ix (d_var (ra := rMn) (x := m) 0 (d_int (i_hl 1 (d_bin (d_callB T.len bt_len (da_one (d_ix (d_var (ra := rMn) (x := m) 0 (d_int (i_hl 1 (c_lenL (d_int (o_sub (i_lst ht ?_))))))))))))))))
  refine s_for (js := [4]) (w_rng1 T.range (d_callB T.len bt_len (da_one (d_var (ra := rLst rB4) (x := bs) 2 (c_lenL ⟨(by omega), ?_⟩)))))
  refine ⟨Unit, fun i _ => winE tt t bs = winE tt (t + (i : Int)) (bs.drop i), fun _ => [some ⟨rMn, m⟩, some ⟨rInt, t⟩, some ⟨rLst rB4, bs⟩, some ⟨rInt, tt⟩, none], fun _ => [], ⟨(), by simp, ⟨rfl, rfl, rfl, rfl, trivial⟩, rfl⟩, fun g i x _ hx hd => (g_name 4 ?_), fun _ hd => ?_⟩
  · obtain ⟨hlt, ex⟩ := rgI_item hx
    have ex : x = (i : Int) := by omega
    subst ex
    have hil : i < bs.length := by omega
    have hd : winE tt t bs = winE tt (t + (i : Int)) (bs.drop i) := hd
    have gc := atI_nat' (List.getElem?_eq_getElem hil)
    rw [List.drop_eq_getElem_cons hil] at hd
    generalize bs[i] = b at gc hd
    refine s_ifP (x := decide (b.2.1 ≥ tt)) (dt_cmp (d_ix (d_ix (d_var (ra := rLst rB4) (x := bs) 2 (d_var (ra := rInt) (x := (i : Int)) 4 (i_lst gc (d_int (i_tup 1 (d_var (ra := rInt) (x := tt) 3 (o_ge ⟨rfl, rfl⟩)))))))))) (fun hc => ?_) (fun hc => s_out ?_)
    · refine s_ret (d_tup (da_cons (d_bin (d_var (ra := rInt) (x := t) 1 (d_var (ra := rInt) (x := (i : Int)) 4 (o_add (da_one (d_bin (d_var (ra := rInt) (x := t) 1 (d_callB T.len bt_len (da_one (d_var (ra := rLst rB4) (x := bs) 2 (c_lenL (o_add (rt_in (hk' ?_))))))))))))))))
      have hc := of_decide_eq_true hc
      rw [hd]
      unfold winE
      rw [if_pos (show tt ≤ b.2.1 from hc)]
    · have hc := of_decide_eq_false hc
      refine s_next () ?_ ⟨rfl, rfl, rfl, rfl, trivial⟩ rfl
      show winE tt t bs = winE tt (t + ((i + 1 : Nat) : Int)) (bs.drop (i + 1))
      rw [hd]
      conv => lhs; unfold winE
      rw [if_neg (show ¬ tt ≤ b.2.1 from by omega)]
      congr 1
      omega
  · have hd : winE tt t bs = winE tt (t + ((rgI 0 1 ((bs.length : Nat) : Int).toNat).length : Int)) (bs.drop (rgI 0 1 ((bs.length : Nat) : Int).toNat).length) := hd
    rw [rgI_len, Int.toNat_natCast, List.drop_length] at hd
    refine s_ret (d_tup (da_cons (d_bin (d_var (ra := rInt) (x := t) 1 (d_callB T.len bt_len (da_one (d_var (ra := rLst rB4) (x := bs) 2 (c_lenL (o_add (da_one (d_bin (d_var (ra := rInt) (x := t) 1 (d_callB T.len bt_len (da_one (d_var (ra := rLst rB4) (x := bs) 2 (c_lenL (o_add (hk' ?_))))))))))))))))))
    rw [hd]
    rfl
end
end Law
set_option Elab.async false
set_option linter.all false
set_option maxRecDepth 100000
set_option maxHeartbeats 4100000
/-! ClC: the law's near, wake, clash, occupies, walked (k25). -/
namespace Law
open PySem L2 Evl Sk MP M10
local macro_rules | `(tactic| walk_at "sc") => `(tactic| first | omega | assumption | trivial | (with_reducible exact mulOk) | (with_reducible exact smOk) | (with_reducible exact ⟨by decide, smOk⟩) | decide | rfl | (simp only [List.length_cons, List.length_nil]; decide) | exact divOk (by omega))
section
variable {P : Program} {w : World} {K : PySem.W.Frag} {mg : Str → Option Value} {base : Heap}
abbrev ClIn := ChV × RuV × Mn × Mn
structure CiOk (ch : ChV) (ru : RuV) (a b : Mn) : Prop where
  kch : ChOk ch
  kru : RuOk ru
  ka : MnOk ch a
  kb : MnOk ch b
abbrev sp_near (K : Fg) : Sp := spF K [] (fCons rChart (fCons rRules (fCons rMn (fCons rMn (fOne rInt))))) (fun x : ChV × RuV × Mn × Mn × Int => CiOk x.1 x.2.1 x.2.2.1 x.2.2.2.1) rBool fun x => !(spT x.2.1 (tkM x.1 x.2.2.1) (tkM x.1 x.2.2.2.1) x.2.2.2.2)
abbrev N_near : List Str := ["_law_chart_here", "_law_rules_here", "_law_one", "_law_other", "_law_tick", "_law_first", "_law_second"]
theorem sc_near : FnScope N_near ["_law_chart_here", "_law_rules_here", "_law_one", "_law_other", "_law_tick"] (defScope s_near) := ⟨rfl, rfl, rfl, by decide +kernel, rfl, by decide +kernel, by decide +kernel⟩
theorem ok_near (N : Nm K mg) (T : Bt mg) : FnOk P w K mg base CX0 6 N.near.f N.near.fd ["_law_chart_here", "_law_rules_here", "_law_one", "_law_other", "_law_tick"] (sp_near K) := by
  refine fn_m N.near.F sc_near [] fun cdv A outer s G H E x Q fam hp hk => ?_
  obtain ⟨ch, ru, a, b, k⟩ := x
  obtain ⟨hch, hru, ha, hb⟩ := hp
  dsimp only at hch hru ha hb
  have hk' : ∀ {Γ : Gm} {z : Bool}, (!(spT ru (tkM ch a) (tkM ch b) k)) = z → RT K ⟨[], _, G, H, []⟩ Γ [] rBool z _ := fun {Γ z} e => hk ⟨rfl, e.symm⟩
  clear hk
  show DS _ K ⟨[], _, G, H, []⟩ [some ⟨rChart, ch⟩, some ⟨rRules, ru⟩, some ⟨rMn, a⟩, some ⟨rMn, b⟩, some ⟨rInt, k⟩, none, none] _ (defBody s_near) _
  refine s_set 5 (d_bin (d_var (ra := rInt) (x := k) 4 (d_ix (d_var (ra := rMn) (x := a) 2 (d_int (i_hl 2 (o_sub ?_)))))))
  refine s_set 6 (d_bin (d_var (ra := rInt) (x := k) 4 (d_ix (d_var (ra := rMn) (x := b) 3 (d_int (i_hl 2 (o_sub ?_)))))))
  refine s_ifP (x := !(decide (0 ≤ k - a.2.2.1) && decide (k - a.2.2.1 < (a.2.2.2.1.length : Int))) || !(decide (0 ≤ k - b.2.2.1) && decide (k - b.2.2.1 < (b.2.2.2.1.length : Int)))) (dt_bool (dp_orP (dt_notP (dt_chainP (d_int (d_var (ra := rInt) (x := k - a.2.2.1) 5 (o_le ⟨rfl, rfl, fun _ => d_callB T.len bt_len (da_one (d_ix (d_var (ra := rMn) (x := a) 2 (d_int (i_hl 3 (c_lenL (o_lt ⟨rfl, rfl⟩)))))))⟩))))) (fun _ => (dp_or1 (dt_notP (dt_chainP (d_int (d_var (ra := rInt) (x := k - b.2.2.1) 6 (o_le ⟨rfl, rfl, fun _ => d_callB T.len bt_len (da_one (d_ix (d_var (ra := rMn) (x := b) 3 (d_int (i_hl 3 (c_lenL (o_lt ⟨rfl, rfl⟩)))))))⟩))))))))) (fun hz => ?_) (fun hz => s_out ?_)
  · refine s_ret (d_bl (hk' ?_))
    have e : spT ru (tkM ch a) (tkM ch b) k = true := by
      unfold spT
      rw [Bool.or_eq_true, Bool.not_eq_true', Bool.not_eq_true', Bool.and_eq_false_iff, Bool.and_eq_false_iff, decide_eq_false_iff_not, decide_eq_false_iff_not, decide_eq_false_iff_not, decide_eq_false_iff_not] at hz
      rcases hz with z | z
      · have e1 : boxAt (tkM ch a) k = none := by
          unfold boxAt
          rw [if_neg]
          show ¬ (a.2.2.1 ≤ k ∧ k < a.2.2.1 + (a.2.2.2.1.length : Int))
          omega
        rw [e1]
      · have e1 : boxAt (tkM ch b) k = none := by
          unfold boxAt
          rw [if_neg]
          show ¬ (b.2.2.1 ≤ k ∧ k < b.2.2.1 + (b.2.2.2.1.length : Int))
          omega
        rw [e1]
        cases boxAt (tkM ch a) k <;> rfl
    rw [e]
    rfl
  rw [Bool.or_eq_false_iff, Bool.not_eq_false', Bool.not_eq_false', Bool.and_eq_true, Bool.and_eq_true, decide_eq_true_eq, decide_eq_true_eq, decide_eq_true_eq, decide_eq_true_eq] at hz
  obtain ⟨⟨q1, q2⟩, q3, q4⟩ := hz
  obtain ⟨x, ex, gx⟩ := box_some (t := tkM ch a) (k := k) (by show a.2.2.1 ≤ k; omega) (by show k < a.2.2.1 + (a.2.2.2.1.length : Int); omega)
  obtain ⟨y, ey, gy⟩ := box_some (t := tkM ch b) (k := k) (by show b.2.2.1 ≤ k; omega) (by show k < b.2.2.1 + (b.2.2.2.1.length : Int); omega)
  have hax : atI a.2.2.2.1 (k - a.2.2.1) = some x := atI_int q1 gx
  have hby : atI b.2.2.2.1 (k - b.2.2.1) = some y := atI_int q3 gy
  have es : spT ru (tkM ch a) (tkM ch b) k = spV ru x (pcT (tkM ch a) x) y (pcT (tkM ch b) y) := by
    unfold spT
    rw [ex, ey]
  refine s_ret (d_then (x := !(spV ru x (pcT (tkM ch a) x) y (pcT (tkM ch b) y))) (d_notP (d_call N.separated (ok_separated N T) (da_cons (d_var (ra := rChart) (x := ch) 0 (da_cons (d_var (ra := rRules) (x := ru) 1 (da_cons (d_var (ra := rMn) (x := a) 2 (da_cons (d_ix (d_ix (d_var (ra := rMn) (x := a) 2 (d_int (i_hl 3 (d_var (ra := rInt) (x := k - a.2.2.1) 5 (i_lst (x := x) hax (da_cons (d_var (ra := rMn) (x := b) 3 (da_one (d_ix (d_ix (d_var (ra := rMn) (x := b) 3 (d_int (i_hl 3 (d_var (ra := rInt) (x := k - b.2.2.1) 6 (i_lst (x := y) hby (sw_f (by exact ⟨⟨hch, hru⟩, ha, hb⟩) ⟨rfl, rfl⟩))))))))))))))))))))))))))) (hk' ?_))
  rw [es]
abbrev sp_wake (K : Fg) : Sp := spF K [] (fCons rChart (fCons rRules (fCons rMn (fOne rMn)))) (fun x : ClIn => CiOk x.1 x.2.1 x.2.2.1 x.2.2.2) (rOpt rInt) fun x => wkV x.1 x.2.1 x.2.2.1 x.2.2.2
abbrev N_wake : List Str := ["_law_chart_here", "_law_rules_here", "_law_one", "_law_other", "_law_runway", "_law_first", "_law_second", "_law_gaps"]
theorem sc_wake : FnScope N_wake ["_law_chart_here", "_law_rules_here", "_law_one", "_law_other"] (defScope s_wake) := ⟨rfl, rfl, rfl, by decide +kernel, rfl, by decide +kernel, by decide +kernel⟩
theorem win_of {ch : ChV} {m : Mn} (h : MnOk ch m) : win (m.2.1.getD (m.2.1.length - 1) 0) m.2.2.1 m.2.2.2.1 = winT (tkM ch m) := by
  have h2 : 2 ≤ m.1.length := h.tk.rt.two
  have e : m.2.1.getD (m.2.1.length - 1) 0 = tot (fxOf ch) m.1 := by
    rw [h.bs]
    have hbl := begins_len (fxOf ch) m.1
    rw [hbl]
    have := bg_get (fx := fxOf ch) (r := m.1) (k := m.1.length - 1) (by omega)
    rw [List.getD_eq_getElem?_getD, this]
    rfl
  rw [e]
  rfl
theorem ok_wake (N : Nm K mg) (T : Bt mg) : FnOk P w K mg base CX0 3 N.wake.f N.wake.fd ["_law_chart_here", "_law_rules_here", "_law_one", "_law_other"] (sp_wake K) := by
  refine fn_m N.wake.F sc_wake [] fun cdv A outer s G H E x Q fam hp hk => ?_
  obtain ⟨ch, ru, a, b⟩ := x
  obtain ⟨hch, hru, ha, hb⟩ := hp
  dsimp only at hch hru ha hb
  have hk' : ∀ {Γ : Gm} {z : Option Int}, wkV ch ru a b = z → RT K ⟨[], _, G, H, []⟩ Γ [] (rOpt rInt) z _ := fun {Γ z} e => hk ⟨rfl, e.symm⟩
  clear hk
  unfold wkV at hk'
  have la1 := last_at ha
  have lb1 := last_at hb
  have hg := hru.gap
  have wa : Wk4 a.2.2.2.2 := ha.wk
  have wb : Wk4 b.2.2.2.2 := hb.wk
  show DS _ K ⟨[], _, G, H, []⟩ [some ⟨rChart, ch⟩, some ⟨rRules, ru⟩, some ⟨rMn, a⟩, some ⟨rMn, b⟩, none, none, none, none] _ (defBody s_wake) _
  refine s_set 4 (d_ix (d_ix (d_var (ra := rMn) (x := a) 2 (d_int (i_hl 0 (d_bin (d_callB T.len bt_len (da_one (d_ix (d_var (ra := rMn) (x := a) 2 (d_int (i_hl 0 (c_lenT (d_int (o_sub (i_tpv la1 ?_))))))))))))))))
  refine s_ifP (x := !decide (lastM a ∈ rwOf ch) || !decide (lastM a = lastM b)) (dt_bool (dp_orP (dt_cmp (d_var (ra := rStr) (x := lastM a) 4 (d_recP 0 3 rfl chN_nd (o_notInL ⟨rfl, rfl⟩)))) (fun _ => (dp_or1 (dt_cmp (d_var (ra := rStr) (x := lastM a) 4 (d_ix (d_ix (d_var (ra := rMn) (x := b) 3 (d_int (i_hl 0 (d_bin (d_callB T.len bt_len (da_one (d_ix (d_var (ra := rMn) (x := b) 3 (d_int (i_hl 0 (c_lenT (d_int (o_sub (i_tpv lb1 (o_neS ⟨rfl, rfl⟩))))))))))))))))))))))) (fun hz => ?_) (fun hz => s_out ?_)
  · refine s_ret (d_none (hk' ?_))
    rw [if_pos]
    rw [Bool.or_eq_true, Bool.not_eq_true', Bool.not_eq_true', decide_eq_false_iff_not, decide_eq_false_iff_not] at hz
    exact hz
  rw [Bool.or_eq_false_iff, Bool.not_eq_false', Bool.not_eq_false', decide_eq_true_eq, decide_eq_true_eq] at hz
  rw [if_neg (fun z => z.elim (fun y => y hz.1) fun y => y hz.2)] at hk'
  refine s_set 5 (d_call N.law_window (ok_law_window N T) (da_cons (d_var (ra := rMn) (x := a) 2 (da_cons (d_ix (d_var (ra := rMn) (x := a) 2 (d_int (i_hl 2 (da_one (d_ix (d_var (ra := rMn) (x := a) 2 (d_int (i_hl 3 (sw_f (by exact ⟨ch, ha, rfl, rfl⟩) ?_))))))))))))))
  refine s_set 6 (d_call N.law_window (ok_law_window N T) (da_cons (d_var (ra := rMn) (x := b) 3 (da_cons (d_ix (d_var (ra := rMn) (x := b) 3 (d_int (i_hl 2 (da_one (d_ix (d_var (ra := rMn) (x := b) 3 (d_int (i_hl 3 (sw_f (by exact ⟨ch, hb, rfl, rfl⟩) ?_))))))))))))))
  dsimp only
  rw [win_of ha, win_of hb]
  refine s_set 7 (d_recP 1 11 rfl ruN_nd ?_)
  refine s_ifP (x := decide ((winT (tkM ch b)).1 - (winT (tkM ch a)).2 ≥ gpA (gapsOf ru) a.2.2.2.2 b.2.2.2.2) || decide ((winT (tkM ch a)).1 - (winT (tkM ch b)).2 ≥ gpA (gapsOf ru) b.2.2.2.2 a.2.2.2.2)) (dt_bool (dp_orP (dt_cmp (d_bin (d_ix (d_var (ra := rPr) (x := winT (tkM ch b)) 6 (d_int (i_tup 0 (d_ix (d_var (ra := rPr) (x := winT (tkM ch a)) 5 (d_int (i_tup 1 (o_sub (d_ix (d_ix (d_var (ra := rGap) (x := gapsOf ru) 7 (d_ix (d_var (ra := rMn) (x := a) 2 (d_int (i_hl 4 (i_tpv (gap_row hg wa) (d_ix (d_var (ra := rMn) (x := b) 3 (d_int (i_hl 4 (i_tpv (gap_at hg wa wb) (o_ge ⟨rfl, rfl⟩))))))))))))))))))))))))) (fun _ => (dp_or1 (dt_cmp (d_bin (d_ix (d_var (ra := rPr) (x := winT (tkM ch a)) 5 (d_int (i_tup 0 (d_ix (d_var (ra := rPr) (x := winT (tkM ch b)) 6 (d_int (i_tup 1 (o_sub (d_ix (d_ix (d_var (ra := rGap) (x := gapsOf ru) 7 (d_ix (d_var (ra := rMn) (x := b) 3 (d_int (i_hl 4 (i_tpv (gap_row hg wb) (d_ix (d_var (ra := rMn) (x := a) 2 (d_int (i_hl 4 (i_tpv (gap_at hg wb wa) (o_ge ⟨rfl, rfl⟩))))))))))))))))))))))))))))) (fun hy => ?_) (fun hy => s_out ?_)
  · have e : apA (gapsOf ru) (lnV (ofM ch a)) (lnV (ofM ch b)) = true := hy
    rw [if_pos e] at hk'
    exact s_ret (d_none (hk' rfl))
  · have e : apA (gapsOf ru) (lnV (ofM ch a)) (lnV (ofM ch b)) = false := hy
    rw [if_neg (by rw [e]; decide)] at hk'
    refine s_ret (d_some (d_callB T.max bt_max (da_cons (d_ix (d_var (ra := rPr) (x := winT (tkM ch a)) 5 (d_int (i_tup 0 (da_one (d_ix (d_var (ra := rPr) (x := winT (tkM ch b)) 6 (d_int (i_tup 0 (c_max2 (hk' rfl))))))))))))))
abbrev sp_law_clash (K : Fg) : Sp := sp0 K [] (fCons rChart (fCons rRules (fCons rMn (fOne rMn)))) (fun x : ClIn => CiOk x.1 x.2.1 x.2.2.1 x.2.2.2) (rOpt rTx) fun x y => LcOk x.1 x.2.1 x.2.2.1 x.2.2.2 y
abbrev N_law_clash : List Str := ["_law_chart_here", "_law_rules_here", "_law_one", "_law_other", "_law_tick"]
theorem sc_law_clash : FnScope N_law_clash ["_law_chart_here", "_law_rules_here", "_law_one", "_law_other"] (defScope s_law_clash) := ⟨rfl, rfl, rfl, by decide +kernel, rfl, by decide +kernel, by decide +kernel⟩
theorem ok_law_clash (N : Nm K mg) (T : Bt mg) : FnOk P w K mg base CX0 7 N.law_clash.f N.law_clash.fd ["_law_chart_here", "_law_rules_here", "_law_one", "_law_other"] (sp_law_clash K) := by
  refine fn_m N.law_clash.F sc_law_clash [] fun cdv A outer s G H E x Q fam hp hk => ?_
  obtain ⟨ch, ru, a, b⟩ := x
  have hp : CiOk ch ru a b := hp
  have hal : a.2.2.2.1.length ≤ 240 := hp.ka.tk.ln
  have hbl : b.2.2.2.1.length ≤ 240 := hp.kb.tk.ln
  have hat : 0 ≤ a.2.2.1 ∧ a.2.2.1 ≤ 1000 := hp.ka.tk.t0
  have hbt : 0 ≤ b.2.2.1 ∧ b.2.2.1 ≤ 1000 := hp.kb.tk.t0
  have hk' : ∀ {Γ : Gm} {y : Option (Str × Int)}, LcOk ch ru a b y → RT K ⟨[], _, G, H, []⟩ Γ [] (rOpt rTx) y _ := fun {Γ y} h => hk ⟨rfl, h⟩
  clear hk
  have z1 : 100000 ≤ sizeLine := by decide
  show DS _ K ⟨[], _, G, H, []⟩ [some ⟨rChart, ch⟩, some ⟨rRules, ru⟩, some ⟨rMn, a⟩, some ⟨rMn, b⟩, none] _ (defBody s_law_clash) _
  have hrn : 0 ≤ (ctV (tkM ch a) (tkM ch b)).1 ∧ (ctV (tkM ch a) (tkM ch b)).1 ≤ 1000 ∧ (ctV (tkM ch a) (tkM ch b)).2 ≤ 2000 ∧ 0 ≤ (ctV (tkM ch a) (tkM ch b)).2 := by
    unfold ctV tkM mx mn
    dsimp only
    split <;> split <;> omega
  refine s_for (js := [4]) (w_rng2 T.range (d_callB T.max bt_max (da_cons (d_ix (d_var (ra := rMn) (x := a) 2 (d_int (i_hl 2 (da_one (d_ix (d_var (ra := rMn) (x := b) 3 (d_int (i_hl 2 (c_max2 (d_callB T.min bt_min (da_cons (d_bin (d_ix (d_var (ra := rMn) (x := a) 2 (d_int (i_hl 2 (d_callB T.len bt_len (da_one (d_ix (d_var (ra := rMn) (x := a) 2 (d_int (i_hl 3 (c_lenL (o_add (da_one (d_bin (d_ix (d_var (ra := rMn) (x := b) 3 (d_int (i_hl 2 (d_callB T.len bt_len (da_one (d_ix (d_var (ra := rMn) (x := b) 3 (d_int (i_hl 3 (c_lenL (o_add (c_min2 ?_)))))))))))))))))))))))))))))))))))))))))))
  show (-(2 ^ 62) ≤ (ctV (tkM ch a) (tkM ch b)).1 ∧ (ctV (tkM ch a) (tkM ch b)).1 < 2 ^ 62 ∧ -(2 ^ 62) ≤ (ctV (tkM ch a) (tkM ch b)).2 ∧ (ctV (tkM ch a) (tkM ch b)).2 < 2 ^ 62) ∧ _
  refine ⟨by omega, ?_⟩
  show ∃ (δ : Type) (Pv : Nat → δ → Prop) (Γf : δ → Gm) (Of : δ → List Own), _ ∧ (∀ g i x d, (rgI (ctV (tkM ch a) (tkM ch b)).1 1 ((ctV (tkM ch a) (tkM ch b)).2 - (ctV (tkM ch a) (tkM ch b)).1).toNat)[i]? = some x → _) ∧ (∀ d, Pv (rgI (ctV (tkM ch a) (tkM ch b)).1 1 ((ctV (tkM ch a) (tkM ch b)).2 - (ctV (tkM ch a) (tkM ch b)).1).toNat).length d → _)
  generalize e1 : (ctV (tkM ch a) (tkM ch b)).1 = st at hrn ⊢
  generalize e2 : (ctV (tkM ch a) (tkM ch b)).2 = en at hrn ⊢
  refine ⟨Unit, fun i _ => ∀ j, st ≤ j → j < st + (i : Int) → spT ru (tkM ch a) (tkM ch b) j = true, fun _ => [some ⟨rChart, ch⟩, some ⟨rRules, ru⟩, some ⟨rMn, a⟩, some ⟨rMn, b⟩, none], fun _ => [], ⟨(), fun j h1 h2 => by omega, ⟨rfl, rfl, rfl, rfl, trivial⟩, rfl⟩, fun gg i k d hx hd => (g_name 4 ?_), fun d hd => ?_⟩
  · obtain ⟨hlt, ex⟩ := rgI_item hx
    have ex : k = st + (i : Int) := by omega
    have hke : k < en := by omega
    refine s_ifP (x := !(spT ru (tkM ch a) (tkM ch b) k)) (dt_val (d_call N.near (ok_near N T) (da_cons (d_var (ra := rChart) (x := ch) 0 (da_cons (d_var (ra := rRules) (x := ru) 1 (da_cons (d_var (ra := rMn) (x := a) 2 (da_cons (d_var (ra := rMn) (x := b) 3 (da_one (d_var (ra := rInt) (x := k) 4 (sw_f (by exact hp) ⟨rfl, rfl⟩))))))))))))) (fun hz => ?_) (fun hz => ?_)
    · have hz : spT ru (tkM ch a) (tkM ch b) k = false := by simpa using hz
      have hf : FcOk ru (tkM ch a) (tkM ch b) (some k) := ⟨by rw [e1, e2]; omega, hz, fun j h1 h2 => hd j (by rw [e1] at h1; exact h1) (by omega)⟩
      exact s_ret (d_some (d_tup (da_cons (d_str (da_one (d_var (ra := rInt) (x := k) 4 (rt_in (hk' (y := some ("near", k)) ⟨some k, hf, rfl⟩))))))))
    · have hz : spT ru (tkM ch a) (tkM ch b) k = true := by simpa using hz
      refine s_out (s_next () (fun j h1 h2 => ?_) ⟨rfl, rfl, rfl, rfl, trivial⟩ rfl)
      by_cases z : j < st + (i : Int)
      · exact hd j h1 z
      · have ej : j = k := by omega
        rw [ej]
        exact hz
  · have hf : FcOk ru (tkM ch a) (tkM ch b) none := fun j h1 h2 => by
      rw [e1] at h1
      rw [e2] at h2
      refine hd j h1 ?_
      rw [rgI_len]
      omega
    refine s_set 4 (d_call N.wake (ok_wake N T) (da_cons (d_var (ra := rChart) (x := ch) 0 (da_cons (d_var (ra := rRules) (x := ru) 1 (da_cons (d_var (ra := rMn) (x := a) 2 (da_one (d_var (ra := rMn) (x := b) 3 (sw_f (by exact hp) ?_))))))))))
    dsimp only
    have hw : LcOk ch ru a b ((wkV ch ru a b).map fun t => ("wake", t)) := ⟨none, hf, rfl⟩
    generalize wkV ch ru a b = wv at hw
    cases wv with
    | none =>
      refine s_ret (d_iteP (x := true) (dt_cmp (d_var (ra := rOpt rInt) (x := none) 4 (d_non (o_isN ⟨rfl, rfl⟩)))) (fun _ => d_none (hk' hw)) (fun h => Bool.noConfusion h))
    | some k =>
      refine s_ret (d_iteP (x := false) (dt_cmp (d_var (ra := rOpt rInt) (x := some k) 4 (d_non (o_isN ⟨rfl, rfl⟩)))) (fun h => Bool.noConfusion h) (fun _ => d_some (d_tup (da_cons (d_str (da_one (d_re (x := fun _ _ => True) (ra := rOpt rInt) (rc := rInt) (d_var (ra := rOpt rInt) (x := some k) 4 ⟨k, fun h => h.2, hk' hw⟩))))))))
end
end Law
set_option Elab.async false
set_option linter.all false
set_option maxRecDepth 100000
set_option maxHeartbeats 4100000
/-! ClD: the law's own flights and offers, its occupied sectors, walked (k25). -/
namespace Law
open PySem L2 Evl Sk MP M10
local macro_rules | `(tactic| walk_at "sc") => `(tactic| first | omega | assumption | trivial | (with_reducible exact mulOk) | (with_reducible exact smOk) | (with_reducible exact ⟨by decide, smOk⟩) | decide | rfl | (simp only [List.length_cons, List.length_nil]; decide) | exact divOk (by omega))
theorem isi_l_t : kitB "list" "tuple" = some false := by decide +kernel
theorem isi_t_t : kitB "tuple" "tuple" = some true := by decide +kernel
theorem isi_l_s : kitB "list" "str" = some false := by decide +kernel
instance kindHl {α : Type} {f : RpF α} : Kind (rHl f) "list" := ⟨fun e ⟨a, vs, h1, h2, _⟩ => by rw [h1]; exact .base (.lst (e _ _ h2))⟩
theorem bdDiv {k : Nat} {x : Int} (y : Int) (h : Bd k x) : Bd k (x / y) := ⟨Nat.lt_of_le_of_lt (Int.natAbs_ediv_le_natAbs x y) h.lt⟩
theorem stp_bd {v : MP.P3} {sp sl : Int} {w : W4} (h1 : Bd 30 v.1) (h2 : Bd 30 v.2.1) (hs : -1000 ≤ sp ∧ sp ≤ 1000) (hl : -1000 ≤ sl ∧ sl ≤ 1000) (hw : WnOk w) : Bd 100 (stpB v sp sl w).2 := by
  obtain ⟨x1, x2⟩ := hw.x
  obtain ⟨y1, y2⟩ := hw.y
  obtain ⟨z1, z2⟩ := hw.e
  have b1 : Bd 20 w.2.1 := Bd.of (by omega) (by omega)
  have b2 : Bd 20 w.2.2.1 := Bd.of (by omega) (by omega)
  have b3 : Bd 20 w.2.2.2 := Bd.of (by omega) (by omega)
  have b4 : Bd 20 sp := Bd.of (by omega) (by omega)
  have b5 : Bd 20 sl := Bd.of (by omega) (by omega)
  have a1 : Bd 31 (ab v.1) := Bd.of (by have := ab0 v.1; omega) (by
    have := h1.lt
    unfold ab
    split <;> omega)
  have a2 : Bd 31 (ab v.2.1) := Bd.of (by have := ab0 v.2.1; omega) (by
    have := h2.lt
    unfold ab
    split <;> omega)
  have p : Bd 60 (push v.1 v.2.1 w.2.1 w.2.2.1) := by
    unfold push
    exact Bd.mono inferInstance (by decide)
  have d : Bd 60 (doubt v.1 v.2.1 w.2.2.2) := by
    unfold doubt
    exact Bd.mono inferInstance (by decide)
  have q2 : Bd 61 ((push v.1 v.2.1 w.2.1 w.2.2.1 + doubt v.1 v.2.1 w.2.2.2) / v.2.2) := bdDiv _ (bdAdd p d)
  unfold stpB
  exact Bd.mono (bdAdd (bdAdd b4 b5) q2) (by decide)
theorem tk_of {ch : ChV} {r : List Str} {sd lv : Int} {kd : K5} {ru : RuV} {ws : List W4} {t : Int} {b0 : B4} {bs : List B4} (hc : ChOk ch) (rt : RtV ch r) (ht : 0 ≤ t ∧ t ≤ 1000) (hb : BoxOk b0) (hsd : -1000 ≤ sd ∧ sd ≤ 1000) (hsl : 0 ≤ slipOf ru ∧ slipOf ru ≤ 1000) (hws : WdOk ws) (h : TubeOut (cdIn ch r sd lv kd ru ws) t b0 bs) : TkOk ((ch, r), t, bs) := by
  have hst := rt.strict hc
  generalize en : cdIn ch r sd lv kd ru ws = n at h
  obtain ⟨_, bE, htu, hge⟩ := h
  have e1 : n.fx = fxOf ch := by rw [← en] <;> rfl
  have e2 : n.r = r := by rw [← en] <;> rfl
  have hbx := htu.box hb (by rw [← en]; exact fun t k => slow_le rt hst hsl.1 hws t k)
  refine ⟨hc, rt, ht, htu.len, fun b hbm => ?_, fun i b c h1 h2 => ?_⟩
  · obtain ⟨i, hi⟩ := List.getElem?_of_mem hbm
    have a1 := (htu.at_ i b hi).1
    rw [e1, e2] at a1
    exact ⟨a1, (hbx.2 b hbm).p⟩
  · obtain ⟨a1, a2, c', a3, a4⟩ := htu.at_ i b h1
    have hl := (List.getElem?_eq_some_iff.mp h2).1
    dsimp only at h2 hl
    rw [List.getElem?_append_left hl, h2] at a3
    cases a3
    have hw := a2.hw
    constructor
    · obtain ⟨p, p1, p2, e⟩ := a4.n1.1
      have k1 : 1 ≤ (MP.bnd n.fx n.r n.sp n.sl (windAt n.ws (t + i)) (la n.fx n.r p)).1 := hw (la n.fx n.r p) (la_mono n.fx (by show 2 ≤ n.r.length; rw [e2]; exact rt.two) p1) (la_mono n.fx (by show 2 ≤ n.r.length; rw [e2]; exact rt.two) p2)
      have e : c.1 = p + (MP.bnd n.fx n.r n.sp n.sl (windAt n.ws (t + i)) (la n.fx n.r p)).1 := e
      omega
    · obtain ⟨p, p1, p2, e⟩ := a4.n2.1
      have e : c.2.1 = p + (MP.bnd n.fx n.r n.sp n.sl (windAt n.ws (t + i)) (la n.fx n.r p)).2 := e
      have hk := Law.la_lt rt.two (fx := fxOf ch) p
      have B : Bd 100 (MP.bnd n.fx n.r n.sp n.sl (windAt n.ws (t + i)) (la n.fx n.r p)).2 := by
        rw [← en]
        show Bd 100 (MP.bnd (fxOf ch) r sd (slipOf ru) (windAt ws (t + i)) (la (fxOf ch) r p)).2
        generalize la (fxOf ch) r p = k at hk
        obtain ⟨q1, q2, q3, q4⟩ := rt.ptOk (show k < r.length by omega)
        obtain ⟨r1, r2, r3, r4⟩ := rt.ptOk hk
        exact stp_bd (v := vec (fxOf ch) r k) (Bd.of (by unfold vec; dsimp only; omega) (by unfold vec; dsimp only; omega)) (Bd.of (by unfold vec; dsimp only; omega) (by unfold vec; dsimp only; omega)) hsd (by omega) (hws.ok _)
      have hB := B.lt
      show c.2.1 - b.2.1 < 2 ^ 100
      omega
section
variable {P : Program} {w : World} {K : PySem.W.Frag} {mg : Str → Option Value} {base : Heap}
abbrev rSM : Rp (Str ⊕ Mn) := rSum rStr rMn
abbrev sp_law_occupies (K : Fg) : Sp := spF K [] (fCons rChart (fCons rMn (fCons rStr (fOne rInt)))) (fun x : ChV × Mn × Str × Int => ChOk x.1 ∧ MnOk x.1 x.2.1) rBool fun x => ocV (tkM x.1 x.2.1) x.2.2.1 x.2.2.2
abbrev N_law_occupies : List Str := ["_law_chart_here", "_law_one", "_law_sector", "_law_tick", "_law_at", "_law_box", "_law_total", "_law_first", "_law_last", "_law_k"]
theorem sc_law_occupies : FnScope N_law_occupies ["_law_chart_here", "_law_one", "_law_sector", "_law_tick"] (defScope s_law_occupies) := ⟨rfl, rfl, rfl, by decide +kernel, rfl, by decide +kernel, by decide +kernel⟩
theorem ok_law_occupies (N : Nm K mg) (T : Bt mg) : FnOk P w K mg base CX0 3 N.law_occupies.f N.law_occupies.fd ["_law_chart_here", "_law_one", "_law_sector", "_law_tick"] (sp_law_occupies K) := by
  refine fn_m N.law_occupies.F sc_law_occupies [] fun cdv A outer s G H E x Q fam hp hk => ?_
  obtain ⟨ch, a, sec, k⟩ := x
  obtain ⟨hch, ha⟩ := hp
  have hch : ChOk ch := hch
  have ha : MnOk ch a := ha
  have rt : RtV ch a.1 := ha.tk.rt
  have z1 : 100000 ≤ sizeLine := by decide
  have hk' : ∀ {Γ : Gm} {z : Bool}, ocV (tkM ch a) sec k = z → RT K ⟨[], _, G, H, []⟩ Γ [] rBool z _ := fun {Γ z} e => hk ⟨rfl, e.symm⟩
  clear hk
  unfold ocV at hk'
  have tt1 := tot_at ha
  have h2 := rt.two
  have hlen := rt.len
  have hb2 : 2 ≤ a.2.1.length ∧ a.2.1.length ≤ 1000 := by
    rw [ha.bs, begins_len]
    exact ⟨h2, hlen⟩
  have hla : ∀ p, laL a.2.1 p = la (fxOf ch) a.1 p := fun p => by rw [ha.bs]; exact laL_eq h2 p
  show DS _ K ⟨[], _, G, H, []⟩ [some ⟨rChart, ch⟩, some ⟨rMn, a⟩, some ⟨rStr, sec⟩, some ⟨rInt, k⟩, none, none, none, none, none, none] _ (defBody s_law_occupies) _
  refine s_set 4 (d_bin (d_var (ra := rInt) (x := k) 3 (d_ix (d_var (ra := rMn) (x := a) 1 (d_int (i_hl 2 (o_sub ?_)))))))
  refine s_ifP (x := !(decide (0 ≤ k - a.2.2.1) && decide (k - a.2.2.1 < (a.2.2.2.1.length : Int)))) (dt_notP (dt_chainP (d_int (d_var (ra := rInt) (x := k - a.2.2.1) 4 (o_le ⟨rfl, rfl, fun _ => d_callB T.len bt_len (da_one (d_ix (d_var (ra := rMn) (x := a) 1 (d_int (i_hl 3 (c_lenL (o_lt ⟨rfl, rfl⟩)))))))⟩))))) (fun hz => ?_) (fun hz => s_out ?_)
  · refine s_ret (d_bl (hk' ?_))
    rw [Bool.not_eq_true', Bool.and_eq_false_iff, decide_eq_false_iff_not, decide_eq_false_iff_not] at hz
    have e1 : boxAt (tkM ch a) k = none := by
      unfold boxAt
      rw [if_neg]
      show ¬ (a.2.2.1 ≤ k ∧ k < a.2.2.1 + (a.2.2.2.1.length : Int))
      omega
    rw [e1]
  rw [Bool.not_eq_false', Bool.and_eq_true, decide_eq_true_eq, decide_eq_true_eq] at hz
  obtain ⟨x, ex, gx⟩ := box_some (t := tkM ch a) (k := k) (by show a.2.2.1 ≤ k; omega) (by show k < a.2.2.1 + (a.2.2.2.1.length : Int); omega)
  have hax : atI a.2.2.2.1 (k - a.2.2.1) = some x := atI_int hz.1 gx
  rw [ex] at hk'
  dsimp only at hk'
  refine s_set 5 (d_ix (d_ix (d_var (ra := rMn) (x := a) 1 (d_int (i_hl 3 (d_var (ra := rInt) (x := k - a.2.2.1) 4 (i_lst (x := x) hax ?_)))))))
  refine s_set 6 (d_ix (d_ix (d_var (ra := rMn) (x := a) 1 (d_int (i_hl 1 (d_bin (d_callB T.len bt_len (da_one (d_ix (d_var (ra := rMn) (x := a) 1 (d_int (i_hl 1 (c_lenL (d_int (o_sub (i_lst tt1 ?_))))))))))))))))
  have hk2 : ∀ {Γ : Gm} {z : Bool}, (if x.2.1 < 0 ∨ x.1 ≥ tot (fxOf ch) a.1 then false else (rgI (la (fxOf ch) a.1 (mx x.1 0) : Int) 1 ((la (fxOf ch) a.1 (mn x.2.1 (tot (fxOf ch) a.1 - 1)) : Int) + 1 - (la (fxOf ch) a.1 (mx x.1 0) : Int)).toNat).any fun i => decide ((lgAt (lgOf ch) a.1 i.toNat).2.2.1 = sec)) = z → RT K ⟨[], _, G, H, []⟩ Γ [] rBool z _ := hk'
  clear hk'
  refine s_ifP (x := decide (x.2.1 < 0) || decide (x.1 ≥ tot (fxOf ch) a.1)) (dt_bool (dp_orP (dt_cmp (d_ix (d_var (ra := rB4) (x := x) 5 (d_int (i_tup 1 (d_int (o_lt ⟨rfl, rfl⟩))))))) (fun _ => (dp_or1 (dt_cmp (d_ix (d_var (ra := rB4) (x := x) 5 (d_int (i_tup 0 (d_var (ra := rInt) (x := tot (fxOf ch) a.1) 6 (o_ge ⟨rfl, rfl⟩))))))))))) (fun hy => ?_) (fun hy => s_out ?_)
  · refine s_ret (d_bl (hk2 ?_))
    rw [if_pos]
    rw [Bool.or_eq_true, decide_eq_true_eq, decide_eq_true_eq] at hy
    exact hy
  rw [Bool.or_eq_false_iff, decide_eq_false_iff_not, decide_eq_false_iff_not] at hy
  rw [if_neg (fun z => z.elim hy.1 hy.2)] at hk2
  have hl1 := Law.la_lt h2 (fx := fxOf ch) (mx x.1 0)
  have hl2 := Law.la_lt h2 (fx := fxOf ch) (mn x.2.1 (tot (fxOf ch) a.1 - 1))
  refine s_set 7 (d_call N.leg_at (ok_leg_at N T) (da_cons (d_ix (d_var (ra := rMn) (x := a) 1 (d_int (i_hl 1 (da_one (d_callB T.max bt_max (da_cons (d_ix (d_var (ra := rB4) (x := x) 5 (d_int (i_tup 0 (da_one (d_int (c_max2 (sw_f (by exact hb2) ?_)))))))))))))))))
  refine s_set 8 (d_call N.leg_at (ok_leg_at N T) (da_cons (d_ix (d_var (ra := rMn) (x := a) 1 (d_int (i_hl 1 (da_one (d_callB T.min bt_min (da_cons (d_ix (d_var (ra := rB4) (x := x) 5 (d_int (i_tup 1 (da_one (d_bin (d_var (ra := rInt) (x := tot (fxOf ch) a.1) 6 (d_int (o_sub (c_min2 (sw_f (by exact hb2) ?_))))))))))))))))))))
  dsimp only
  rw [hla, hla]
  show DS _ K _ [_, _, _, _, _, _, _, some ⟨rInt, ((la (fxOf ch) a.1 (mx x.1 0) : Nat) : Int)⟩, some ⟨rInt, ((la (fxOf ch) a.1 (mn x.2.1 (tot (fxOf ch) a.1 - 1)) : Nat) : Int)⟩, _] _ _ _
  generalize la (fxOf ch) a.1 (mx x.1 0) = f1 at hl1 hk2 ⊢
  generalize la (fxOf ch) a.1 (mn x.2.1 (tot (fxOf ch) a.1 - 1)) = f2 at hl2 hk2 ⊢
  refine s_ret (d_callB T.any bt_any (da_one (d_lcP (js := [9]) (ra := rInt) (rb := rBool) (f := fun i : Int => decide ((lgAt (lgOf ch) a.1 i.toNat).2.2.1 = sec)) [("_law_k", 9)] [9] (fun _ => blkOk_by (N := N_law_occupies) (sc := defScope s_law_occupies) (by decide +kernel)) (w_rng2 T.range (d_var (ra := rInt) (x := (f1 : Int)) 7 (d_bin (d_var (ra := rInt) (x := (f2 : Int)) 8 (d_int (o_add ⟨(by omega), ⟨rfl, (by rw [rgI_len]; omega), fun gg D ys i hi => (g_name 9 ?_), (c_anyG (hk2 ?_))⟩⟩)))))))))
  · obtain ⟨i2, hi2⟩ := List.getElem?_of_mem hi
    obtain ⟨q1, q2⟩ := rgI_item hi2
    obtain ⟨n, rfl⟩ : ∃ n : Nat, i = (n : Int) := ⟨i.toNat, by omega⟩
    have hn : n + 1 < a.1.length := by omega
    obtain ⟨l, hl1'⟩ := rt.lg n hn
    have g1 := atI_nat' (at_get (show n < a.1.length by omega))
    have g2 : atI a.1 ((n : Int) + 1) = some (at_ a.1 (n + 1)) := atI_int (by omega) (by rw [show ((n : Int) + 1).toNat = n + 1 by omega]; exact at_get hn)
    refine d_cmp (d_ix (d_call N.leg (ok_leg N T) (da_cons (d_var (ra := rChart) (x := ch) 0 (da_cons (d_ix (d_ix (d_var (ra := rMn) (x := a) 1 (d_int (i_hl 0 (d_var (ra := rInt) (x := (n : Int)) 9 (i_tpv g1 (da_one (d_ix (d_ix (d_var (ra := rMn) (x := a) 1 (d_int (i_hl 0 (d_bin (d_var (ra := rInt) (x := (n : Int)) 9 (d_int (o_add (i_tpv g2 (sw_f (by exact ⟨hch.len, l, hl1'⟩) (d_int (i_tup 2 (d_var (ra := rStr) (x := sec) 2 (o_eqS ⟨rfl, rfl⟩))))))))))))))))))))))))))))
  · rw [List.any_map]
    rfl
end
end Law
set_option Elab.async false
set_option linter.all false
set_option maxRecDepth 100000
set_option maxHeartbeats 4100000
/-! ClE: flights made, offers, walked (k25). -/
namespace Law
open PySem L2 Evl Sk MP M10
local macro_rules | `(tactic| walk_at "sc") => `(tactic| first | omega | assumption | trivial | (with_reducible exact mulOk) | (with_reducible exact smOk) | (with_reducible exact ⟨by decide, smOk⟩) | decide | rfl | (simp only [List.length_cons, List.length_nil]; decide) | exact divOk (by omega))
section
variable {P : Program} {w : World} {K : PySem.W.Frag} {mg : Str → Option Value} {base : Heap}
abbrev MdA := ChV × LnV × RuV × List W4 × CrV × K5 × Int × B4
structure MdOk (x : MdA) : Prop where
  ch : ChOk x.1
  hr : hrOf x.1 = []
  ln : LenOk x.1 x.2.1
  ru : RuOk x.2.2.1
  wd : WdOk x.2.2.2.1
  rt : RtV x.1 x.2.2.2.2.1.1
  sd : -1000 ≤ x.2.2.2.2.1.2.1 ∧ x.2.2.2.2.1.2.1 ≤ 1000
  kd : KdOk x.2.2.2.2.2.1
  t0 : 0 ≤ x.2.2.2.2.2.2.1 ∧ x.2.2.2.2.2.2.1 ≤ 1000
  bx : BoxOk x.2.2.2.2.2.2.2
abbrev sp_made (K : Fg) : Sp := sp0 K [] (fCons rChart (fCons (rDt rInt) (fCons rRules (fCons (rLst rWnd) (fCons rCrs (fCons rK5 (fCons rInt (fOne rB4)))))))) MdOk rSM fun x y => ∀ m, y = .inr m → MnOk x.1 m
abbrev N_made : List Str := ["_law_chart_here", "_law_lengths_here", "_law_rules_here", "_law_winds_here", "_law_course_here", "_law_kind_here", "_law_tick", "_law_box", "_law_begins_here", "_law_boxes"]
theorem sc_made : FnScope N_made ["_law_chart_here", "_law_lengths_here", "_law_rules_here", "_law_winds_here", "_law_course_here", "_law_kind_here", "_law_tick", "_law_box"] (defScope s_made) := ⟨rfl, rfl, rfl, by decide +kernel, rfl, by decide +kernel, by decide +kernel⟩
theorem ok_made (N : Nm K mg) (T : Bt mg) : FnOk P w K mg base CX0 6 N.made.f N.made.fd ["_law_chart_here", "_law_lengths_here", "_law_rules_here", "_law_winds_here", "_law_course_here", "_law_kind_here", "_law_tick", "_law_box"] (sp_made K) := by
  refine fn_m N.made.F sc_made [] fun cdv A outer s G H E x Q fam hp hk => ?_
  obtain ⟨ch, L, ru, ws, ⟨r, sd, lv⟩, kd, t, b0⟩ := x
  obtain ⟨hch, hhr, hL, hru, hws, rt, hsd, hkd, ht, hbo⟩ := hp
  dsimp only at hch hhr hL hru hws rt hsd hkd ht hbo
  have hk' : ∀ {Γ : Gm} {y : Str ⊕ Mn}, (∀ m, y = .inr m → MnOk ch m) → RT K ⟨[], _, G, H, []⟩ Γ [] rSM y _ := fun {Γ y} h => hk ⟨rfl, h⟩
  clear hk
  have q1 := hru.sli
  show DS _ K ⟨[], _, G, H, []⟩ [some ⟨rChart, ch⟩, some ⟨rDt rInt, L⟩, some ⟨rRules, ru⟩, some ⟨(rLst rWnd), ws⟩, some ⟨rCrs, (r, sd, lv)⟩, some ⟨rK5, kd⟩, some ⟨rInt, t⟩, some ⟨rB4, b0⟩, none, none] _ (defBody s_made) _
  refine s_set 8 (d_call N.begins (ok_begins N T) (da_cons (d_var (ra := rDt rInt) (x := L) 1 (da_one (d_ix (d_var (ra := rCrs) (x := (r, sd, lv)) 4 (d_int (i_tup 0 (sw_f (by exact ⟨rt.two, rt.len, fun j hj => ⟨_, hL.at rt hj⟩⟩) ?_)))))))))
  dsimp only
  rw [bgLs_eq hL rt]
  refine s_set 9 (d_call N.tube (ok_tube N T) (da_cons (d_var (ra := rChart) (x := ch) 0 (da_cons (d_ix (d_var (ra := rCrs) (x := (r, sd, lv)) 4 (d_int (i_tup 0 (da_cons (d_var (ra := rLst rInt) (x := begins (fxOf ch) r) 8 (da_cons (d_var (ra := rCrs) (x := (r, sd, lv)) 4 (da_cons (d_var (ra := rK5) (x := kd) 5 (da_cons (d_var 2 (da_cons (d_var 3 (da_cons (d_var (ra := rInt) (x := t) 6 (da_one (d_var (ra := rB4) (x := b0) 7 (sw_mF [] (by exact ⟨hch, rt, rfl, q1.1, hws, hkd.m.1, ht.1, hbo, by dsimp only; rw [hhr]; decide, by dsimp only; rw [hhr]; exact fun h hh => absurd hh List.not_mem_nil⟩) (fun w hw => hw) (fun z => z) (fun y O' hy _ hf => ?_))))))))))))))))))))))))
  rw [List.append_nil]
  cases y with
  | inr p =>
    obtain ⟨_, eO⟩ := hy
    subst eO
    refine s_re (ra := rRes) (x := .inr p) (rb := rCT) (y := p) 9 (fun h => h) ?_
    refine s_ifP (x := true) (dt_val (d_callB T.isi bt_isi (da_cons (d_var (ra := rCT) (x := p) 9 (da_one (d_cls T.tuple bt_tuple (c_isi (b := true) (kit_ty isi_t_t) ⟨rfl, rfl⟩))))))) (fun _ => ?_) (fun h => Bool.noConfusion h)
    exact s_ret (d_inl (d_ix (d_var (ra := rCT) (x := p) 9 (d_int (i_tup 0 (hk' fun m e => by cases e))))))
  | inl q =>
    obtain ⟨bs, hout, eO⟩ := hy
    subst eO
    have hq := hf ⟨q, oLst rB4, bs⟩ List.mem_cons_self (by simp)
    refine s_re (ra := rRes) (x := .inl q) (rb := rAdr) (y := q) 9 (fun h => h) ?_
    refine s_frz 9 hq ?_
    refine s_ifP (x := false) (dt_val (d_callB T.isi bt_isi (da_cons (d_var (ra := rLst rB4) (x := bs) 9 (da_one (d_cls T.tuple bt_tuple (c_isi (b := false) (kit_ty isi_l_t) ⟨rfl, rfl⟩))))))) (fun h => Bool.noConfusion h) (fun _ => s_out ?_)
    have htk := tk_of (ru := ru) hch rt ht hbo hsd (by omega) hws hout
    have hwk : Wk4 kd.1 := by
      have := hkd.w
      exact ⟨this.1, by omega⟩
    refine s_ret (d_inr (d_hl (da_cons (d_ix (d_var (ra := rCrs) (x := (r, sd, lv)) 4 (d_int (i_tup 0 (da_cons (d_var (ra := rLst rInt) (x := begins (fxOf ch) r) 8 (da_cons (d_var (ra := rInt) (x := t) 6 (da_cons (d_var (ra := rLst rB4) (x := bs) 9 (da_one (d_ix (d_var (ra := rK5) (x := kd) 5 (d_int (i_tup 0 (hk' fun m e => ?_)))))))))))))))))))
    cases e
    exact ⟨rfl, htk, hwk⟩
abbrev sp_offer (C : Addr) (K : Fg) : Sp := spF K [] (fCons rChart (fOne rMn)) (fun x : ChV × Mn => ChOk x.1 ∧ MnOk x.1 x.2) (rOf C) fun x => ofM x.1 x.2
abbrev N_offer : List Str := ["_law_chart_here", "_law_mine", "_law_last", "_law_runway"]
theorem sc_offer : FnScope N_offer ["_law_chart_here", "_law_mine"] (defScope s_offer) := ⟨rfl, rfl, rfl, by decide +kernel, rfl, by decide +kernel, by decide +kernel⟩
theorem ok_offer (N : Nm K mg) (T : Bt mg) : FnOk P w K mg base CX0 5 N.offer.f N.offer.fd ["_law_chart_here", "_law_mine"] (sp_offer N.cPath K) := by
  refine fn_m N.offer.F sc_offer [] fun cdv A outer s G H E x Q fam hp hk => ?_
  obtain ⟨ch, m⟩ := x
  obtain ⟨hch, hm⟩ := hp
  have hch : ChOk ch := hch
  have hm : MnOk ch m := hm
  have rt : RtV ch m.1 := hm.tk.rt
  have hk' : ∀ {Γ : Gm} {o : Ofr}, ofM ch m = o → RT K ⟨[], _, G, H, []⟩ Γ [] (rOf N.cPath) o _ := fun {Γ o} e => hk ⟨rfl, e.symm⟩
  clear hk
  have la1 := last_at hm
  show DS _ K ⟨[], _, G, H, []⟩ [some ⟨rChart, ch⟩, some ⟨rMn, m⟩, none, none] _ (defBody s_offer) _
  refine s_ifP (x := false) (dt_val (d_callB T.isi bt_isi (da_cons (d_var (ra := rMn) (x := m) 1 (da_one (d_cls T.str bt_str (c_isi (b := false) (kit_ty isi_l_s) ⟨rfl, rfl⟩))))))) (fun h => Bool.noConfusion h) (fun _ => s_out ?_)
  refine s_set 2 (d_ix (d_ix (d_var (ra := rMn) (x := m) 1 (d_int (i_hl 0 (d_bin (d_callB T.len bt_len (da_one (d_ix (d_var (ra := rMn) (x := m) 1 (d_int (i_hl 0 (c_lenT (d_int (o_sub (i_tpv la1 ?_))))))))))))))))
  refine s_set 3 (d_abs (fun y => y = if lastM m ∈ rwOf ch then lastM m else "") (fun y hy => ?_) (d_iteP (x := decide (lastM m ∈ rwOf ch)) (dt_cmp (d_var (ra := rStr) (x := lastM m) 2 (d_recP 0 3 rfl chN_nd (o_inL ⟨rfl, rfl⟩)))) (fun hb => (d_var (ra := rStr) (x := lastM m) 2 ⟨by rw [if_pos (of_decide_eq_true hb)], rfl⟩)) (fun hb => (d_str ⟨by rw [if_neg (of_decide_eq_false hb)], rfl⟩))))
  refine s_ret (d_tup (da_cons (d_ix (d_var (ra := rMn) (x := m) 1 (d_int (i_hl 4 (da_cons (d_var (ra := rStr) (x := y) 3 (da_one (d_tup (da_cons (d_re (x := fun _ _ => True) (rc := rPath N.cPath) (ra := rIns N.cPath ns_Path pF) (d_done (r := oIns N.cPath ns_Path pF) (d_make N.iPath (ok_Path_init N T) (da_cons (d_var (ra := rChart) (x := ch) 0 (da_one (d_ix (d_var (ra := rMn) (x := m) 1 (d_int (i_hl 0 (fun p hp => sw_m _ rt (fun w hw => hw) (fun z => z) (fun y2 O' hy2 => ⟨mkP ch m.1, [], by rw [hy2]; rfl, hp, ((ch, m.1) : PR), fun h => h, da_cons (d_ix (d_var (ra := rMn) (x := m) 1 (d_int (i_hl 2 (da_one (d_callT T.list bt_list (da_one (d_ix (d_var (ra := rMn) (x := m) 1 (d_int (i_hl 3 (c_list (hk' ?_)))))))))))))⟩)))))))))))))))))))))))
  rw [hy]
  rfl
abbrev DrA := Addr × ChV × LnV × RuV × List W4 × List Str
structure DrOk (x : DrA) : Prop where
  ch : ChOk x.2.1
  hr : hrOf x.2.1 = []
  ln : LenOk x.2.1 x.2.2.1
  ru : RuOk x.2.2.2.1
  wd : WdOk x.2.2.2.2.1
  rt : RtV x.2.1 x.2.2.2.2.2
abbrev sp_drawn (K : Fg) : Sp := sp1 K [] (fCons rAdr (fCons rChart (fCons (rDt rInt) (fCons rRules (fCons (rLst rWnd) (fOne (rTpv rStr))))))) DrOk (fun x => ⟨x.1, oSt, ()⟩) rSM fun x y => ∀ m, y = .inr m → MnOk x.2.1 m
abbrev N_drawn : List Str := ["_law_state", "_law_chart_here", "_law_lengths_here", "_law_rules_here", "_law_winds_here", "_law_route", "_law_kind_here", "_law_course_here", "_law_level", "_law_box"]
theorem sc_drawn : FnScope N_drawn ["_law_state", "_law_chart_here", "_law_lengths_here", "_law_rules_here", "_law_winds_here", "_law_route"] (defScope s_drawn) := ⟨rfl, rfl, rfl, by decide +kernel, rfl, by decide +kernel, by decide +kernel⟩
theorem ok_drawn (N : Nm K mg) (T : Bt mg) : FnOk P w K mg base CX0 7 N.drawn.f N.drawn.fd ["_law_state", "_law_chart_here", "_law_lengths_here", "_law_rules_here", "_law_winds_here", "_law_route"] (sp_drawn K) := by
  refine fn_m N.drawn.F sc_drawn [] fun cdv A outer s G H E x Q fam hp hk => ?_
  obtain ⟨q, ch, L, ru, ws, r⟩ := x
  obtain ⟨hch, hhr, hL, hru, hws, rt⟩ := hp
  dsimp only at hch hhr hL hru hws rt
  have hk' : ∀ {Γ : Gm} {y : Str ⊕ Mn}, (∀ m, y = .inr m → MnOk ch m) → RT K ⟨[], _, G, H, []⟩ Γ [⟨q, oSt, ()⟩] rSM y _ := fun {Γ y} h => hk ⟨rfl, h⟩
  clear hk
  show DS _ K ⟨[], _, G, H, []⟩ [some ⟨rAdr, q⟩, some ⟨rChart, ch⟩, some ⟨rDt rInt, L⟩, some ⟨rRules, ru⟩, some ⟨(rLst rWnd), ws⟩, some ⟨rTpv rStr, r⟩, none, none, none, none] [⟨q, oSt, ()⟩] (defBody s_drawn) _
  refine s_set 6 (d_call N.kind (ok_kind N T) (da_one (d_var 0 (sw_1 (q := q) trivial (fun kd hkd => ?_)))))
  have hkd : KdOk kd := hkd
  have k1 := hkd.s
  have k2 := hkd.f
  refine s_set 7 (d_tup (da_cons (d_var (ra := rTpv rStr) (x := r) 5 (da_cons (d_bin (d_ix (d_var (ra := rK5) (x := kd) 6 (d_int (i_tup 1 (d_call N.draw (ok_draw N T) (da_cons (d_var 0 (da_one (d_bin (d_bin (d_ix (d_var (ra := rK5) (x := kd) 6 (d_int (i_tup 2 (d_ix (d_var (ra := rK5) (x := kd) 6 (d_int (i_tup 1 (o_sub (d_int (o_add (sw_1 (q := q) ⟨by dsimp only; omega, sm_of (by dsimp only; omega) (by dsimp only; omega)⟩ (fun n1 hn1 => (o_add (da_one (d_call N.pick (ok_pick (ra := rInt) N T) (da_cons (d_var 0 (da_one (d_lst (ra := rInt) (da_all (d_int (da_all (d_int (da_all (d_int (da_all0 ⟨(by walk_at "sc"), (sw_1 (q := q) ⟨by walk_at "sc", by walk_at "sc"⟩ (fun lv hlv => ?_))⟩))))))))))))))))))))))))))))))))))))))))))
  clear hlv
  have hn1 : 0 ≤ n1 ∧ n1 < kd.2.2.1 - kd.2.1 + 1 := hn1
  have hsd : -1000 ≤ kd.2.1 + n1 ∧ kd.2.1 + n1 ≤ 1000 := by omega
  generalize kd.2.1 + n1 = sd at hsd
  refine s_set 8 (d_call N.pick (ok_pick (ra := rInt) N T) (da_cons (d_var 0 (da_one (d_lst (ra := rInt) (da_all (d_int (da_all (d_int (da_all (d_int (da_all (d_int (da_all0 ⟨(by walk_at "sc"), (sw_1 (q := q) ⟨by walk_at "sc", by walk_at "sc"⟩ (fun dn hdn => ?_))⟩))))))))))))))
  clear hdn
  refine s_set 9 (d_tup (da_cons (d_un (d_call N.draw (ok_draw N T) (da_cons (d_var 0 (da_one (d_int (sw_1 (q := q) ⟨(by walk_at "sc"), (by walk_at "sc")⟩ (fun n2 hn2 => (u_neg (da_cons (d_call N.draw (ok_draw N T) (da_cons (d_var 0 (da_one (d_int (sw_1 (q := q) ⟨(by walk_at "sc"), (by walk_at "sc")⟩ (fun n3 hn3 => (da_cons (d_var (ra := rInt) (x := dn) 8 (da_one (d_bin (d_var (ra := rInt) (x := dn) 8 (d_call N.draw (ok_draw N T) (da_cons (d_var 0 (da_one (d_int (sw_1 (q := q) ⟨(by walk_at "sc"), (by walk_at "sc")⟩ (fun n4 hn4 => (o_add ?_))))))))))))))))))))))))))))))))
  have hn2' : 0 ≤ n2 ∧ n2 < 4 := hn2
  have hn3' : 0 ≤ n3 ∧ n3 < 4 := hn3
  have hn4' : 0 ≤ n4 ∧ n4 < 3 := hn4
  clear hn2 hn3 hn4
  generalize eb0 : ((-n2, n3, dn, dn + n4) : B4) = b0
  have hbo : BoxOk b0 := by
    rw [← eb0]
    exact ⟨by dsimp only; omega, by dsimp only; omega⟩
  clear eb0
  refine s_ret (d_call N.made (ok_made N T) (da_cons (d_var (ra := rChart) (x := ch) 1 (da_cons (d_var (ra := rDt rInt) (x := L) 2 (da_cons (d_var 3 (da_cons (d_var 4 (da_cons (d_var (ra := rCrs) (x := (r, sd, lv)) 7 (da_cons (d_var (ra := rK5) (x := kd) 6 (da_cons (d_call N.draw (ok_draw N T) (da_cons (d_var 0 (da_one (d_int (sw_1 (q := q) ⟨(by walk_at "sc"), (by walk_at "sc")⟩ (fun t ht => (da_one (d_var (ra := rB4) (x := b0) 9 (sw_0 (by exact ⟨hch, hhr, hL, hru, hws, rt, hsd, hkd, by have z : 0 ≤ t ∧ t < 11 := ht; dsimp only; omega, hbo⟩) (fun y hy => hk' hy)))))))))))))))))))))))))
end
end Law
set_option Elab.async false
set_option linter.all false
set_option maxRecDepth 100000
set_option maxHeartbeats 4100000
/-! Z25: the law of k25. -/
namespace Law
open PySem L2 Evl Sk MP M10
local macro_rules | `(tactic| walk_at "sc") => `(tactic| first | omega | assumption | trivial | (with_reducible exact mulOk) | (with_reducible exact smOk) | (with_reducible exact ⟨by decide, smOk⟩) | decide | rfl | (simp only [List.length_cons, List.length_nil]; decide) | exact divOk (by omega))
theorem all2_cons {α : Type} {p : V → α → Prop} {x : α} {xs : List α} : ∀ {vs : List V}, All2 p vs (x :: xs) → ∃ v ws, vs = v :: ws ∧ p v x ∧ All2 p ws xs
  | [], h => h.elim
  | v :: ws, h => ⟨v, ws, rfl, h⟩
theorem all2_nil {α : Type} {p : V → α → Prop} : ∀ {vs : List V}, All2 p vs ([] : List α) → vs = []
  | [], _ => rfl
  | _ :: _, h => h.elim
abbrev rSI : Rp (Str ⊕ Int) := rSum rStr rInt
abbrev sisV (l : Leg) : List (Str ⊕ Int) := [.inl l.1, .inl l.2.1, .inl l.2.2.1, .inr l.2.2.2.1, .inr l.2.2.2.2]
theorem si_of {K : Fg} {G : Hp} {v : V} {l : Leg} (h : rLeg.rep K G v l) : (rTpv rSI).rep K G v (sisV l) := by
  obtain ⟨a, vs, e, ht, v0, w0, e0, r0, v1, w1, e1, r1, v2, w2, e2, r2, v3, w3, e3, r3, v4, e4, r4⟩ := h
  subst e4 e3 e2 e1 e0
  exact ⟨a, _, e, ht, r0, r1, r2, r3, r4, trivial⟩
theorem si_to {K : Fg} {G : Hp} {v : V} {l : Leg} (h : (rTpv rSI).rep K G v (sisV l)) : rLeg.rep K G v l := by
  obtain ⟨a, vs, e, ht, hr⟩ := h
  obtain ⟨v0, w0, e0, r0, hr⟩ := all2_cons hr
  obtain ⟨v1, w1, e1, r1, hr⟩ := all2_cons hr
  obtain ⟨v2, w2, e2, r2, hr⟩ := all2_cons hr
  obtain ⟨v3, w3, e3, r3, hr⟩ := all2_cons hr
  obtain ⟨v4, w4, e4, r4, hr⟩ := all2_cons hr
  have e8 := all2_nil hr
  subst e8
  exact ⟨a, _, e, ht, _, _, e0, r0, _, _, e1, r1, _, _, e2, r2, _, _, e3, r3, _, e4, r4⟩
abbrev nm3 (l : Leg) : Str × Str × Str := (l.1, l.2.1, l.2.2.1)
theorem nm3_mem {D E : List Leg} (h : D.map nm3 = E.map nm3) {l : Leg} (hl : l ∈ D) : ∃ e ∈ E, e.1 = l.1 ∧ e.2.1 = l.2.1 ∧ e.2.2.1 = l.2.2.1 := by
  have h1 : nm3 l ∈ D.map nm3 := List.mem_map.mpr ⟨l, hl, rfl⟩
  rw [h] at h1
  obtain ⟨e, he, z⟩ := List.mem_map.mp h1
  have z1 := congrArg (fun x : Str × Str × Str => x.1) z
  have z2 := congrArg (fun x : Str × Str × Str => x.2.1) z
  have z3 := congrArg (fun x : Str × Str × Str => x.2.2) z
  exact ⟨e, he, z1, z2, z3⟩
theorem LegIn.same {ns : List Str} {D E : List Leg} (h : D.map nm3 = E.map nm3) (z : LegIn ns E) : LegIn ns D where
  s := fun l hl => by obtain ⟨e, he, a, b, c⟩ := nm3_mem h hl; rw [← a]; exact z.s e he
  e := fun l hl => by obtain ⟨e, he, a, b, c⟩ := nm3_mem h hl; rw [← b]; exact z.e e he
  o := fun l hl => by obtain ⟨e, he, a, b, c⟩ := nm3_mem h hl; rw [← c]; exact z.o e he
  n := fun l hl => by obtain ⟨e, he, a, b, c⟩ := nm3_mem h hl; rw [← a, ← b]; exact z.n e he
theorem ChQ.same {fx : Fx} {lg D : List Leg} {zo : List Int} {rw1 rw2 : List Str} {ho : List (Key × Str)} {hr : List Hr} {cp : List (Key × Int)} {m : Int} {ns : List Str} (h : D.map nm3 = lg.map nm3) (z : ChQ (((fx, lg, zo, rw1, ho), hr), cp) m ns) : ChQ (((fx, D, zo, rw2, ho), hr), cp) m ns where
  l2 := z.l2
  l12 := z.l12
  nd := z.nd
  so := z.so
  ne := z.ne
  ky := z.ky
  fx := z.fx
  li := z.li.same h
  ll := by
    have e := congrArg List.length h
    rw [List.length_map, List.length_map] at e
    show D.length ≤ 100
    rw [e]
    exact z.ll
theorem set_nm3 {D : List Leg} {k : Nat} {l l' : Leg} (h : D[k]? = some l) (e : nm3 l' = nm3 l) : (D.set k l').map nm3 = D.map nm3 := by
  rw [List.map_set]
  refine List.ext_getElem? fun i => ?_
  rw [List.getElem?_set]
  by_cases z : k = i
  · subst z
    have hl := (List.getElem?_eq_some_iff.mp h).1
    rw [if_pos rfl, if_pos (by rw [List.length_map]; exact hl), List.getElem?_map, h, e]
    rfl
  · rw [if_neg z]
theorem cut_to {α : Type} (xs : List α) (k : Nat) (h : k ≤ xs.length) : cutL xs none (some (k : Int)) = xs.take k := by
  unfold cutL
  have e1 : HT.sIx xs.length xs.length (some (k : Int)) = k := by
    show (if (k : Int) < 0 then ((k : Int) + (xs.length : Int)).toNat else min (k : Int).toNat xs.length) = _
    rw [if_neg (by omega)]
    omega
  rw [e1]
  show (xs.drop 0).take (k - 0) = _
  rw [List.drop_zero, Nat.sub_zero]
theorem nw_to {n k : Nat} (hk : k < n) : ¬ (HT.sIx n 0 none = 0 ∧ HT.sIx n n (some (k : Int)) = n) := fun z => by
  have e : (if (k : Int) < 0 then ((k : Int) + (n : Int)).toNat else min (k : Int).toNat n) = n := z.2
  rw [if_neg (by omega)] at e
  omega
section
variable {P : Program} {w : World} {K : PySem.W.Frag} {mg : Str → Option Value} {base : Heap}
theorem sm_some {K : Fg} {G : Hp} {v : V} {a b : Mn} (h : (rLst rSM).rep K G v [.inr a, .inr b]) : (rLst rMn).rep K G v [a, b] := by
  obtain ⟨c, vs, h1, h2, h3⟩ := h
  obtain ⟨v0, w0, e0, r0, h3⟩ := all2_cons h3
  obtain ⟨v1, w1, e1, r1, h3⟩ := all2_cons h3
  have e2 := all2_nil h3
  subst e2 e1 e0
  exact ⟨c, _, h1, h2, r0, r1, trivial⟩
theorem cl_good {ru : RuV} {a b : Ofr} {y : Option (Str × Int)} (h : ClOk ru a b y) : ∀ x, y = some x → PyData.strOk x.1 = true := by
  intro x e
  obtain ⟨f, _, ey⟩ := h
  rw [e] at ey
  cases f with
  | some k =>
    have : x = (("near" : Str), k) := by simpa using ey
    rw [this]
    show PyData.strOk ("near" : Str) = true
    decide +kernel
  | none =>
    have ey : some x = wcV ru a b := ey
    unfold wcV at ey
    split at ey
    · cases ey
    · split at ey
      · cases ey
      · have this := Option.some.inj ey
        rw [this]
        show PyData.strOk ("wake" : Str) = true
        decide +kernel
theorem lc_good {ch : ChV} {ru : RuV} {a b : Mn} {y : Option (Str × Int)} (hR : ("" : Str) ∉ rwOf ch) (h : LcOk ch ru a b y) : ∀ x, y = some x → PyData.strOk x.1 = true := by
  obtain ⟨f, hf, e⟩ := id h
  clear e
  cases f with
  | some k =>
    have h2 : ClOk ru (ofM ch a) (ofM ch b) (some (("near" : Str), k)) := ⟨some k, hf, rfl⟩
    rw [← clash_eq hR h2 h]
    exact cl_good h2
  | none =>
    have h2 : ClOk ru (ofM ch a) (ofM ch b) (wcV ru (ofM ch a) (ofM ch b)) := ⟨none, hf, rfl⟩
    rw [← clash_eq hR h2 h]
    exact cl_good h2
abbrev sp_law (K : Fg) (T : List Addr) : Sp := sp0 K T (fOne (rSeq rInt)) (fun ns => ns.length ≤ 63) rBool fun _ y => y = true
abbrev N_law : List Str := ["_law_script", "_law_state", "_law_chart_here", "_law_k", "_law_lengths_here", "_law_rules_here", "_law_winds_here", "_law_routes", "_law_mine", "_law_offers", "_law_due", "_law_tick", "_law_sector", "_law_route", "_law_one"]
theorem sc_law : FnScope N_law ["_law_script"] (defScope s_law) := ⟨rfl, rfl, rfl, by decide +kernel, rfl, by decide +kernel, by decide +kernel⟩
theorem ok_law (N : Nm K mg) (T : Bt mg) (Y : Tb0 N base) : FnOk P w K mg base CX0 11 N.law.f N.law.fd ["_law_script"] (sp_law K (tsOf N)) := by
  refine fn_m N.law.F sc_law (tsOf N) fun cdv A outer s G H E x Q fam hp hk => ?_
  have hk' : ∀ {Γ : Gm} {O : List Own}, RT K ⟨tsOf N, _, G, H, []⟩ Γ O rBool true _ := fun {Γ O} => rt_drop (hk ⟨rfl, rfl⟩)
  clear hk
  have z1 : 100000 ≤ sizeLine := by decide
  show DS _ K ⟨tsOf N, _, G, H, []⟩ [some ⟨(rSeq rInt), x⟩, none, none, none, none, none, none, none, none, none, none, none, none, none, none] [] (defBody s_law) _
  refine s_set 1 (d_call N.start (ok_start N T) (da_one (d_var 0 (sw_n hp (fun q _ _ => ?_)))))
  refine s_set 2 (d_call N.small_chart (ok_small_chart N T) (da_one (d_var 1 (sw_small (fun qc ch ns0 m0 ql qh hc0 hh0 hp0 hq hl hh => ?_)))))
  obtain ⟨⟨⟨fx, lg, zo, rw_, hol⟩, hr⟩, cp⟩ := ch
  have hh0 : hr = [] := hh0
  have hlg : lg.length ≤ 100 := hc0.ll
  have hp0 : 0 < lg.length := hp0
  have hl12 := hc0.l12
  have hl2 := hc0.l2
  simp only [chO]
  refine s_recPutV 2 3 rfl chN_nd (d_slice (d_callB T.sorted bt_sorted (da_one (d_recV 2 0 rfl chN_nd (c_sortedD (rb := rPt) (ks := ns0) hc0.ky (by omega) (fun ys hys _ => do_no (do_at (d_int (sl_l ⟨rfl, ?_⟩)))))))))
  have hysm : ∀ n ∈ cutL ys none (some 3), n ≠ ("" : Str) := fun n hn => by
    have h1 : n ∈ ys := by
      unfold cutL at hn
      exact List.mem_of_mem_drop (List.mem_of_mem_take hn)
    exact hc0.ne n (hys.mem_iff.mp h1)
  generalize cutL ys none (some 3) = rw2 at hysm
  clear hys
  show DS _ K ⟨tsOf N, _, G, H, []⟩ [some ⟨(rSeq rInt), x⟩, some ⟨rAdr, q⟩, some ⟨rAdr, qc⟩, none, none, none, none, none, none, none, none, none, none, none, none] (⟨qc, oRec chN chFO, ((((fx, ql, zo, rw2, hol), qh), cp) : ChO)⟩ :: ⟨ql, oLst rLeg, lg⟩ :: ⟨qh, oLst rHour, hr⟩ :: [⟨q, oSt, ()⟩]) _ _
  refine s_for (js := [3]) (w_rng1 T.range (d_callB T.len bt_len (da_one (d_recV 2 1 rfl chN_nd (c_lenG (rb := rLeg) ⟨?_, ?_⟩)))))
  · show -2 ^ 62 ≤ ((lg.length : Nat) : Int) ∧ ((lg.length : Nat) : Int) < 2 ^ 62
    omega
  refine ⟨List Leg, fun i D => D.map nm3 = lg.map nm3, fun _ => [some ⟨(rSeq rInt), x⟩, some ⟨rAdr, q⟩, some ⟨rAdr, qc⟩, none, none, none, none, none, none, none, none, none, none, none, none], fun D => [⟨qc, oRec chN chFO, ((((fx, ql, zo, rw2, hol), qh), cp) : ChO)⟩, ⟨ql, oLst rLeg, D⟩, ⟨qh, oLst rHour, hr⟩, ⟨q, oSt, ()⟩], ⟨lg, rfl, ⟨rfl, rfl, rfl, trivial⟩, rfl⟩, fun gg i k0 D hx hD => (g_name 3 ?_), fun D hD => ?_⟩
  · have hD : D.map nm3 = lg.map nm3 := hD
    have hDl : D.length = lg.length := by
      have e := congrArg List.length hD
      rwa [List.length_map, List.length_map] at e
    obtain ⟨hlt, ex⟩ := rgI_item hx
    have hlt : i < ((lg.length : Nat) : Int).toNat := hlt
    have ex : k0 = (i : Int) := by omega
    subst ex
    have hiD : i < D.length := by omega
    obtain ⟨l, hl0⟩ : ∃ l, D[i]? = some l := ⟨_, List.getElem?_eq_getElem hiD⟩
    have gi : atI D (i : Int) = some l := atI_nat' hl0
    refine s_if (dt_cmp (d_call N.draw (ok_draw N T) (da_cons (d_var (ra := rAdr) (x := q) 1 (da_one (d_int (sw_1 (q := q) ⟨(by walk_at "sc"), (by walk_at "sc")⟩ (fun n2 hn2 => (d_int (o_gt ⟨fun hb => ?_, fun hb => ?_⟩))))))))))
    · have ec : cutL (sisV l) none (some 3) ++ [.inr 0, .inr 600] = sisV (l.1, l.2.1, l.2.2.1, 0, 600) := by
        rw [show cutL (sisV l) none (some 3) = (sisV l).take 3 from cut_to (sisV l) 3 (by show 3 ≤ 5; decide)]
        rfl
      have hA : cutL (sisV l) none (some 3) ≠ [] := by
        rw [show cutL (sisV l) none (some 3) = (sisV l).take 3 from cut_to (sisV l) 3 (by show 3 ≤ 5; decide)]
        exact List.cons_ne_nil _ _
      refine s_setI (rc := rLeg) (d_re (x := fun _ _ => True) (ra := rTpv rSI) (rc := rLeg) (d_bin (d_slice (d_re (x := fun _ _ => True) (ra := rLeg) (rc := rTpv rSI) (d_ix (d_recV 2 1 rfl chN_nd (d_var (ra := rInt) (x := (i : Int)) 3 (i_ls (rb := rLeg) gi ⟨sisV l, si_of, do_no (do_at (d_int (sl_t (nw_to (k := 3) (by show 3 < 5; decide)) (d_tpv (ra := rSI) (da_all (d_inr (d_int (da_all (d_inr (d_int (da_all0 ⟨?_, o_catT hA (List.cons_ne_nil _ _) ?_ ⟨((l.1, l.2.1, l.2.2.1, 0, 600) : Leg), fun h => si_to (by rw [← ec]; exact h), d_recV 2 1 rfl chN_nd (d_var (ra := rInt) (x := (i : Int)) 3 ⟨D, _, inferInstance, ⟨by omega, by omega⟩, ?_⟩)⟩⟩)))))))))))⟩))))))))
      · show 2 ≤ sizeLine
        omega
      · rw [show cutL (sisV l) none (some 3) = (sisV l).take 3 from cut_to (sisV l) 3 (by show 3 ≤ 5; decide)]
        show 3 + 2 ≤ sizeLine
        omega
      · rw [Int.toNat_natCast]
        refine s_out (s_next (D.set i (l.1, l.2.1, l.2.2.1, 0, 600)) ?_ ⟨rfl, rfl, rfl, trivial⟩ rfl)
        show (D.set i _).map nm3 = _
        rw [set_nm3 (l' := (l.1, l.2.1, l.2.2.1, 0, 600)) hl0 rfl, hD]
    · exact s_out (s_next D hD ⟨rfl, rfl, rfl, trivial⟩ rfl)
  have hD : D.map nm3 = lg.map nm3 := hD
  have hDl : D.length = lg.length := by
    have e := congrArg List.length hD
    rwa [List.length_map, List.length_map] at e
  have hc1 := hc0.same (rw2 := rw2) hD
  generalize ech : ((((fx, D, zo, rw2, hol), hr), cp) : ChV) = ch at hc1
  show DS _ K ⟨tsOf N, _, G, H, []⟩ [some ⟨(rSeq rInt), x⟩, some ⟨rAdr, q⟩, some ⟨rAdr, qc⟩, none, none, none, none, none, none, none, none, none, none, none, none] (⟨qc, oRec chN chFO, ((((fx, ql, zo, rw2, hol), qh), cp) : ChO)⟩ :: ⟨ql, oLst rLeg, D⟩ :: ⟨qh, oLst rHour, hr⟩ :: [⟨q, oSt, ()⟩]) _ _
  have e1 : ((((fx, ql, zo, rw2, hol), qh), cp) : ChO) = chO ch ql qh := by rw [← ech]
  have e2 : D = lgOf ch := by rw [← ech]
  have e3 : hr = hrOf ch := by rw [← ech]
  have e4 : rw2 = rwOf ch := by rw [← ech]; rfl
  have hpos2 : 0 < (lgOf ch).length := by rw [← e2]; omega
  have hhr2 : hrOf ch = [] := by rw [← e3]; exact hh0
  have hR : ("" : Str) ∉ rwOf ch := fun z => hysm "" (by rw [e4]; exact z) rfl
  rw [e1, e2, e3]
  refine s_chDone 2 hq hl hh ?_
  have hch := hc1.ok
  clear ech e1 e2 e3 e4 hD hDl hc0 hc1 hysm
  refine s_set 4 (d_call N.lengths (ok_lengths N T) (da_one (d_var 2 (sw_0 hch (fun L hL => ?_)))))
  have hL : LenOk ch L := hL
  refine s_set 5 (d_call N.rules (ok_rules N T) (da_one (d_var 1 (sw_1NF (q := q) trivial (fun qr ru hru hqr => ?_)))))
  have hru : RuOk ru := hru
  refine s_done 5 hqr ?_
  refine s_set 6 (d_call N.winds (ok_winds N T) (da_one (d_var 1 (sw_1 (q := q) trivial (fun ws hws => ?_)))))
  have hws : WdOk ws := hws
  refine s_set 7 (d_lstO (ra := rTpv rStr) (da_all (d_call N.walk (ok_walk N T) (da_cons (d_var 1 (da_cons (d_var 2 (da_one (d_int (sw_1 (q := q) ⟨⟨hch, hpos2⟩, (by dsimp only; decide), (by dsimp only; decide)⟩ (fun r1 hr1 => (da_all (d_call N.walk (ok_walk N T) (da_cons (d_var 1 (da_cons (d_var 2 (da_one (d_int (sw_1 (q := q) ⟨⟨hch, hpos2⟩, (by dsimp only; decide), (by dsimp only; decide)⟩ (fun r2 hr2 => (da_all0 ⟨(by walk_at "sc"), fun q7 hq7 => ?_⟩))))))))))))))))))))))
  have hr1 : RtV ch r1 := hr1
  have hr2 : RtV ch r2 := hr2
  refine s_ifJE (fun rs : List (List Str) => ∃ r1 r2, rs = [r1, r2] ∧ RtV ch r1 ∧ RtV ch r2) (fun _ => [some ⟨(rSeq rInt), x⟩, some ⟨rAdr, q⟩, some ⟨rChart, ch⟩, none, some ⟨rDt rInt, L⟩, some ⟨rRules, ru⟩, some ⟨(rLst rWnd), ws⟩, some ⟨rAdr, q7⟩, none, none, none, none, none, none, none]) (fun rs => [⟨q7, oLst (rTpv rStr), rs⟩, ⟨q, oSt, ()⟩]) (dt_cmp (d_call N.draw (ok_draw N T) (da_cons (d_var 1 (da_one (d_int (sw_1 (q := q) ⟨(by walk_at "sc"), (by walk_at "sc")⟩ (fun n9 hn9 => (d_int (o_eqI ⟨fun _ => ?_, fun _ => s_join [r1, r2] ⟨r1, r2, rfl, hr1, hr2⟩ ⟨rfl, rfl, rfl, rfl, rfl, rfl, rfl, trivial⟩ rfl⟩)))))))))) (fun rs hrs => ?_)
  · refine s_setI (rc := rTpv rStr) (d_ix (d_var (ra := rAdr) (x := q7) 7 (d_int (i_lstO (x := r1) (atI_int (i := 0) (by decide) rfl) (d_var (ra := rAdr) (x := q7) 7 (d_int ⟨_, _, inferInstance, ⟨by decide, by show (1 : Int) < 2; decide⟩, ?_⟩))))))
    exact s_join [r1, r1] ⟨r1, r1, rfl, hr1, hr1⟩ ⟨rfl, rfl, rfl, rfl, rfl, rfl, rfl, trivial⟩ rfl
  clear hr1 hr2
  obtain ⟨r1, r2, ers, hr1, hr2⟩ := hrs
  subst ers
  refine s_frz 7 hq7 ?_
  refine s_lcO 8 (js := [13]) (ra := rTpv rStr) (rb := rSM) [("_law_route", 13)] [13] (fun _ => blkOk_by (N := N_law) (sc := defScope s_law) (by decide +kernel)) (w_lst (d_var (ra := rLst (rTpv rStr)) (x := [r1, r2]) 7 ⟨Unit, fun i ys _ => ys.length = i ∧ ∀ y ∈ ys, ∀ m, y = .inr m → MnOk ch m, fun _ => [⟨q, oSt, ()⟩], ⟨(), ⟨rfl, fun y h => absurd h List.not_mem_nil⟩, rfl⟩, fun g D i r ys d hx hd => (g_name 13 (dts_nil ⟨fun _ => ?_, fun h => Bool.noConfusion h⟩)), fun q8 ms d hM8 hd => ?_⟩))
  · obtain ⟨hd1, hd2⟩ := hd
    have hd1 : ys.length = i := hd1
    have hi2 : i < 2 := (List.getElem?_eq_some_iff.mp hx).1
    have hrt : RtV ch r := by
      have hm := List.mem_of_getElem? hx
      simp only [List.mem_cons, List.not_mem_nil, or_false] at hm
      rcases hm with rfl | rfl
      · exact hr1
      · exact hr2
    refine d_call N.drawn (ok_drawn N T) (da_cons (d_var (ra := rAdr) (x := q) 1 (da_cons (d_var 2 (da_cons (d_var 4 (da_cons (d_var 5 (da_cons (d_var 6 (da_one (d_var (ra := rTpv rStr) (x := r) 13 (sw_1 (q := q) (by exact ⟨hch, hhr2, hL, hru, hws, hrt⟩) (fun y hy => ⟨(), rfl, by omega, by rw [List.length_append, hd1]; rfl, fun y' h' m e => ?_⟩))))))))))))))
    rcases List.mem_append.mp h' with z | z
    · exact hd2 y' z m e
    · rw [List.mem_singleton.mp z] at e
      exact hy m e
  obtain ⟨hl2', hms⟩ := hd
  have hl2' : ms.length = 2 := hl2'
  obtain ⟨y1, y2, rfl⟩ : ∃ y1 y2, ms = [y1, y2] := by
    match ms, hl2' with
    | [a, b], _ => exact ⟨a, b, rfl⟩
  have hy1 := hms y1 List.mem_cons_self
  have hy2 := hms y2 (List.mem_cons_of_mem _ List.mem_cons_self)
  clear hms
  refine s_frz 8 hM8 ?_
  cases y1 with
  | inl s1 =>
    have m0 : atI [(Sum.inl s1 : Str ⊕ Mn), y2] 0 = some (Sum.inl s1) := atI_int (i := 0) (by decide) rfl
    refine s_ifP (x := true || false) (dt_bool (dp_orP (dt_val (d_callB T.isi bt_isi (da_cons (d_re (x := fun _ _ => True) (ra := rSM) (rc := rStr) (d_ix (d_var (ra := rLst rSM) (x := [(Sum.inl s1 : Str ⊕ Mn), y2]) 8 (d_int (i_lst m0 ⟨s1, fun h => h, da_one (d_cls T.str bt_str (c_isi (b := true) (kit_ty isi_str_str) ⟨rfl, rfl⟩))⟩)))))))) (fun h => Bool.noConfusion h))) (fun _ => ?_) (fun h => Bool.noConfusion h)
    exact s_ret (d_bl hk')
  | inr a =>
  cases y2 with
  | inl s2 =>
    have m0 : atI [(Sum.inr a : Str ⊕ Mn), Sum.inl s2] 0 = some (Sum.inr a) := atI_int (i := 0) (by decide) rfl
    have m1 : atI [(Sum.inr a : Str ⊕ Mn), Sum.inl s2] 1 = some (Sum.inl s2) := atI_int (i := 1) (by decide) rfl
    refine s_ifP (x := false || true) (dt_bool (dp_orP (dt_val (d_callB T.isi bt_isi (da_cons (d_re (x := fun _ _ => True) (ra := rSM) (rc := rMn) (d_ix (d_var (ra := rLst rSM) (x := [(Sum.inr a : Str ⊕ Mn), Sum.inl s2]) 8 (d_int (i_lst m0 ⟨a, fun h => h, da_one (d_cls T.str bt_str (c_isi (b := false) (kit_ty isi_l_s) ⟨rfl, rfl⟩))⟩)))))))) (fun _ => (dp_or1 (dt_val (d_callB T.isi bt_isi (da_cons (d_re (x := fun _ _ => True) (ra := rSM) (rc := rStr) (d_ix (d_var (ra := rLst rSM) (x := [(Sum.inr a : Str ⊕ Mn), Sum.inl s2]) 8 (d_int (i_lst m1 ⟨s2, fun h => h, da_one (d_cls T.str bt_str (c_isi (b := true) (kit_ty isi_str_str) ⟨rfl, rfl⟩))⟩)))))))))))) (fun _ => ?_) (fun h => Bool.noConfusion h)
    exact s_ret (d_bl hk')
  | inr b =>
  have ha := hy1 a rfl
  have hb := hy2 b rfl
  clear hy1 hy2
  refine s_re (ra := rLst rSM) (x := [.inr a, .inr b]) (rb := rLst rMn) (y := [a, b]) 8 sm_some ?_
  have g0 : atI [a, b] 0 = some a := atI_int (i := 0) (by decide) rfl
  have g1 : atI [a, b] 1 = some b := atI_int (i := 1) (by decide) rfl
  have nf : ∀ {q : Prop}, false = true → q := fun {q} h => Bool.noConfusion h
  refine s_ifP (x := false || false) (dt_bool (dp_orP (dt_val (d_callB T.isi bt_isi (da_cons (d_ix (d_var (ra := rLst rMn) (x := [a, b]) 8 (d_int (i_lst g0 (da_one (d_cls T.str bt_str (c_isi (b := false) (kit_ty isi_l_s) ⟨rfl, rfl⟩)))))))))) (fun _ => (dp_or1 (dt_val (d_callB T.isi bt_isi (da_cons (d_ix (d_var (ra := rLst rMn) (x := [a, b]) 8 (d_int (i_lst g1 (da_one (d_cls T.str bt_str (c_isi (b := false) (kit_ty isi_l_s) ⟨rfl, rfl⟩)))))))))))))) nf (fun _ => s_out ?_)
  have hab : ∀ m ∈ [a, b], MnOk ch m := fun m hm => by
    simp only [List.mem_cons, List.not_mem_nil, or_false] at hm
    rcases hm with rfl | rfl
    · exact ha
    · exact hb
  refine s_lcP 9 (js := [14]) (ra := rMn) (rb := rOf N.cPath) (f := fun m : Mn => ofM ch m) [("_law_one", 14)] [14] (fun _ => blkOk_by (N := N_law) (sc := defScope s_law) (by decide +kernel)) (w_lst (d_var (ra := rLst rMn) (x := [a, b]) 8 ⟨rfl, (by walk_at "sc"), fun gg D ys m hm => (g_name 14 (d_call N.offer (ok_offer N T) (da_cons (d_var (ra := rChart) (x := ch) 2 (da_one (d_var (ra := rMn) (x := m) 14 (sw_f (by exact ⟨hch, hab m hm⟩) ⟨rfl, rfl⟩))))))), ?_⟩))
  have hoa := ha.of
  have hob := hb.of
  have o0 : atI [ofM ch a, ofM ch b] 0 = some (ofM ch a) := atI_int (i := 0) (by decide) rfl
  have o1 : atI [ofM ch a, ofM ch b] 1 = some (ofM ch b) := atI_int (i := 1) (by decide) rfl
  refine s_set 10 (d_call N.law_clash (ok_law_clash N T) (da_cons (d_var (ra := rChart) (x := ch) 2 (da_cons (d_var (ra := rRules) (x := ru) 5 (da_cons (d_ix (d_var (ra := rLst rMn) (x := [a, b]) 8 (d_int (i_lst g0 (da_one (d_ix (d_var (ra := rLst rMn) (x := [a, b]) 8 (d_int (i_lst g1 (sw_0 (by exact ⟨hch, hru, ha, hb⟩) (fun due hdue => ?_)))))))))))))))))
  have hdue : LcOk ch ru a b due := hdue
  have hgd := lc_good hR hdue
  refine s_ifP (x := (!decide (due = due)) || !decide (due = due)) (dt_bool (dp_orP (dt_cmp (d_call N.clash (ok_clash N T Y) (da_cons (d_var (ra := rRules) (x := ru) 5 (da_cons (d_ix (d_var (ra := rLst (rOf N.cPath)) (x := [ofM ch a, ofM ch b]) 9 (d_int (i_lst o0 (da_one (d_ix (d_var (ra := rLst (rOf N.cPath)) (x := [ofM ch a, ofM ch b]) 9 (d_int (i_lst o1 (sw_0 (by exact ⟨hru, hoa, hob⟩) (fun y hy => d_var (ra := rOpt rTx) (x := due) 10 (o_neD (fun p e => ⟨cl_good hy p e, trivial⟩) (fun p e => ⟨hgd p e, trivial⟩) ⟨by rw [clash_eq hR hy hdue], rfl⟩))))))))))))))))) (fun _ => (dp_or1 (dt_cmp (d_call N.clash (ok_clash N T Y) (da_cons (d_var (ra := rRules) (x := ru) 5 (da_cons (d_ix (d_var (ra := rLst (rOf N.cPath)) (x := [ofM ch a, ofM ch b]) 9 (d_int (i_lst o1 (da_one (d_ix (d_var (ra := rLst (rOf N.cPath)) (x := [ofM ch a, ofM ch b]) 9 (d_int (i_lst o0 (sw_0 (by exact ⟨hru, hob, hoa⟩) (fun y hy => d_var (ra := rOpt rTx) (x := due) 10 (o_neD (fun p e => ⟨cl_good hy p e, trivial⟩) (fun p e => ⟨hgd p e, trivial⟩) ⟨by rw [clash_eq hR hy (lc_comm25 hdue)], rfl⟩))))))))))))))))))))) (fun h => ?_) (fun _ => s_out ?_)
  · rw [decide_eq_true (rfl : due = due)] at h
    cases h
  refine s_for (js := [3]) (w_rng1 T.range (d_int ⟨(by omega), ?_⟩))
  refine ⟨Unit, fun i _ => True, fun _ => [some ⟨(rSeq rInt), x⟩, some ⟨rAdr, q⟩, some ⟨rChart, ch⟩, none, some ⟨rDt rInt, L⟩, some ⟨rRules, ru⟩, some ⟨(rLst rWnd), ws⟩, some ⟨rLst (rTpv rStr), [r1, r2]⟩, some ⟨rLst rMn, [a, b]⟩, some ⟨rLst (rOf N.cPath), [ofM ch a, ofM ch b]⟩, some ⟨rOpt rTx, due⟩, none, none, none, none], fun _ => [⟨q, oSt, ()⟩], ⟨(), trivial, ⟨rfl, rfl, rfl, rfl, rfl, rfl, rfl, rfl, rfl, rfl, trivial⟩, rfl⟩, fun g i k _ hx _ => (g_name 3 ?_), fun _ _ => ?_⟩
  rotate_left
  · refine s_ret (d_cmp (d_call N.clash (ok_clash N T Y) (da_cons (d_var (ra := rRules) (x := ru) 5 (da_cons (d_ix (d_var (ra := rLst (rOf N.cPath)) (x := [ofM ch a, ofM ch b]) 9 (d_int (i_lst o0 (da_one (d_ix (d_var (ra := rLst (rOf N.cPath)) (x := [ofM ch a, ofM ch b]) 9 (d_int (i_lst o1 (sw_0 (by exact ⟨hru, hoa, hob⟩) (fun y hy => d_var (ra := rOpt rTx) (x := due) 10 (o_eqD (fun p e => ⟨cl_good hy p e, trivial⟩) (fun p e => ⟨hgd p e, trivial⟩) ?_)))))))))))))))))
    rw [clash_eq hR hy hdue, decide_eq_true (rfl : due = due)]
    exact hk'
  have hk2 : ∀ {Γ : Gm} {O : List Own} {D' : L2.Ends}, D'.rt = (fun v H' => Q v H') → RT K ((⟨tsOf N, _, G, H, []⟩ : Bs).push g) Γ O rBool true D' := fun {Γ O D'} h => rt_in hk' h
  obtain ⟨hlt, ek⟩ := rgI_item hx
  have hlt : i < 2 := hlt
  obtain ⟨m, gm, go, hm⟩ : ∃ m, atI [a, b] k = some m ∧ atI [ofM ch a, ofM ch b] k = some (ofM ch m) ∧ MnOk ch m := by
    rcases (show k = 0 ∨ k = 1 by omega) with e | e
    · subst e
      exact ⟨a, g0, o0, ha⟩
    · subst e
      exact ⟨b, g1, o1, hb⟩
  have hml : m.2.2.2.1.length ≤ 240 := hm.tk.ln
  refine s_set 11 (d_bin (d_bin (d_ix (d_ix (d_var (ra := rLst rMn) (x := [a, b]) 8 (d_var (ra := rInt) (x := k) 3 (i_lst gm (d_int (i_hl 2 (d_call N.draw (ok_draw N T) (da_cons (d_var (ra := rAdr) (x := q) 1 (da_one (d_bin (d_callB T.len bt_len (da_one (d_ix (d_ix (d_var (ra := rLst rMn) (x := [a, b]) 8 (d_var (ra := rInt) (x := k) 3 (i_lst gm (d_int (i_hl 3 (c_lenL (d_int (o_add (sw_1 (q := q) ⟨by dsimp only; omega, sm_of (by dsimp only; omega) (by dsimp only; omega)⟩ (fun n5 hn5 => (o_add (d_int (o_sub ?_)))))))))))))))))))))))))))))))
  generalize m.2.2.1 + n5 - 1 = tick
  refine s_for (js := [12]) (w_lst (ra := rStr) (d_lst (ra := rStr) (da_all (d_str (da_all (d_str (da_all (d_str (da_all (d_str (da_all0 ⟨(by walk_at "sc"), ?_⟩)))))))))))
  refine ⟨Unit, fun i _ => True, fun _ => [some ⟨(rSeq rInt), x⟩, some ⟨rAdr, q⟩, some ⟨rChart, ch⟩, some ⟨rInt, k⟩, some ⟨rDt rInt, L⟩, some ⟨rRules, ru⟩, some ⟨(rLst rWnd), ws⟩, some ⟨rLst (rTpv rStr), [r1, r2]⟩, some ⟨rLst rMn, [a, b]⟩, some ⟨rLst (rOf N.cPath), [ofM ch a, ofM ch b]⟩, some ⟨rOpt rTx, due⟩, some ⟨rInt, tick⟩, none, none, none], fun _ => [⟨q, oSt, ()⟩], ⟨(), trivial, ⟨rfl, rfl, rfl, rfl, rfl, rfl, rfl, rfl, rfl, rfl, rfl, rfl, trivial⟩, rfl⟩, fun g2 i2 sec _ hx2 _ => (g_name 12 ?_), fun _ _ => ?_⟩
  · refine s_ifP (x := false) (dt_notP (x := true) (dt_val (d_call N.is (ok_is N T) (da_cons (d_call N.occupies (ok_occupies N T) (da_cons (d_ix (d_var (ra := rLst (rOf N.cPath)) (x := [ofM ch a, ofM ch b]) 9 (d_var (ra := rInt) (x := k) 3 (i_lst go (da_cons (d_var (ra := rStr) (x := sec) 12 (da_one (d_var (ra := rInt) (x := tick) 11 (sw_f (by exact hm.of) (da_one (d_call N.law_occupies (ok_law_occupies N T) (da_cons (d_var (ra := rChart) (x := ch) 2 (da_cons (d_ix (d_var (ra := rLst rMn) (x := [a, b]) 8 (d_var (ra := rInt) (x := k) 3 (i_lst gm (da_cons (d_var (ra := rStr) (x := sec) 12 (da_one (d_var (ra := rInt) (x := tick) 11 (sw_f (by exact ⟨hch, hm⟩) (sw_f trivial ⟨by exact decide_eq_true rfl, rfl⟩)))))))))))))))))))))))))))))) nf (fun _ => s_out ?_)
    exact s_next () trivial ⟨rfl, rfl, rfl, rfl, rfl, rfl, rfl, rfl, rfl, rfl, rfl, rfl, trivial⟩ rfl
  · exact s_next () trivial ⟨rfl, rfl, rfl, rfl, rfl, rfl, rfl, rfl, rfl, rfl, trivial⟩ rfl
end
end Law
set_option Elab.async false
set_option linter.all false
set_option maxRecDepth 100000
set_option maxHeartbeats 4100000
namespace Law
open PySem L2 Evl Sk
def asL : List Addr := [3,6,4,49,56,63,70,77,84,91,98,105,112,119,126,133,140,147,154,161,166,171,178,185,192,199,206,213,305,314,321,328,335,342,349,356,363,370,377,384,389,394,399,406,411,416,423,430,437,444,451,456,463,468,475,482,489,496,503,508,513,520,525,532,539,546,553,558,565,572,579,584,0,48,55,62,69,76,83,90,97,104,111,118,125,132,139,146,153,160,165,170,177,184,191,198,205,212,304,313,320,327,334,341,348,355,362,369,376,383,388,393,398,405,410,415,422,429,436,443,450,455,462,467,474,481,488,495,502,507,512,519,524,531,538,545,552,557,564,571,578,583,43,45,46,47,50,52,53,54,57,59,60,61,64,66,67,68,71,73,74,75,78,80,81,82,85,87,88,89,92,94,95,96,99,101,102,103,106,108,109,110,113,115,116,117,120,122,123,124,127,129,130,131,134,136,137,138,141,143,144,145,148,150,151,152,155,157,158,159,162,164,167,169,172,174,175,176,179,181,182,183,186,188,189,190,193,195,196,197,200,202,203,204,207,209,210,211,225,232,239,246,253,260,267,274,281,288,295,302,303,306,307,310,312,315,317,318,319,322,324,325,326,329,331,332,333,336,338,339,340,343,345,346,347,350,352,353,354,357,359,360,361,364,366,367,368,371,373,374,375,378,380,381,382,385,387,390,392,395,397,400,402,403,404,407,409,412,414,417,419,420,421,424,426,427,428,431,433,434,435,438,440,441,442,445,447,448,449,452,454,457,459,460,461,464,466,469,471,472,473,476,478,479,480,483,485,486,487,490,492,493,494,497,499,500,501,504,506,509,511,514,516,517,518,521,523,526,528,529,530,533,535,536,537,540,542,543,544,547,549,550,551,554,556,559,561,562,563,566,568,569,570,573,575,576,577,580,582,224,231,238,245,252,259,266,273,280,287,294,301,221,223,226,228,229,230,233,235,236,237,240,242,243,244,247,249,250,251,254,256,257,258,261,263,264,265,268,270,271,272,275,277,278,279,282,284,285,286,289,291,292,293,296,298,299,300]
def fnL : List He.DefD := [dD "root_down" s_root_down, dD "root_up" s_root_up, dD "common" s_common, dD "cross" s_cross, dD "dot" s_dot, dD "point_square" s_point_square, dD "sign" s_sign, dD "crosses" s_crosses, dD "squares" s_squares, dD "distance_down" s_distance_down, dD "leg_between" s_leg_between, dD "leg_length" s_leg_length, dD "window" s_window, dD "apart" s_apart, dD "are_above" s_are_above, dD "box_at" s_box_at, dD "common_ticks" s_common_ticks, dD "occupies" s_occupies, dD "fastest" s_fastest, dD "gap_between" s_gap_between, dD "quiet_ticks" s_quiet_ticks, dD "probe" s_probe, dD "landing_of" s_landing_of, dD "wake_clash" s_wake_clash, dD "clash" s_clash, dD "_law_start" s_start, dD "_law_draw" s_draw, dD "_law_pick" s_pick, dD "_law_is" s_is, dD "_law_root_up" s_law_root_up, dD "_law_cross" s_law_cross, dD "_law_dot" s_law_dot, dD "_law_point_closer" s_point_closer, dD "_law_closer" s_closer, dD "_law_names" s_names, dD "_law_legs" s_legs, dD "_law_chart" s_chart, dD "_law_leg" s_leg, dD "_law_lengths" s_lengths, dD "_law_walk" s_walk, dD "_law_begins" s_begins, dD "_law_leg_at" s_leg_at, dD "_law_place_on" s_place_on, dD "_law_piece" s_piece, dD "_law_kind" s_kind, dD "_law_rules" s_rules, dD "_law_winds" s_winds, dD "_law_wind_at" s_wind_at, dD "_law_bounds" s_bounds, dD "_law_target" s_target, dD "_law_towards" s_towards, dD "_law_small_chart" s_small_chart, dD "_law_next" s_law_next, dD "_law_code" s_code, dD "_law_tube" s_tube, dD "_law_separated" s_separated, dD "_law_window" s_law_window, dD "_law_near" s_near, dD "_law_wake" s_wake, dD "_law_clash" s_law_clash, dD "_law_occupies" s_law_occupies, dD "_law_made" s_made, dD "_law_offer" s_offer, dD "_law_drawn" s_drawn, dD "law" s_law, ⟨("Path", some "__init__"), "__init__", "Path.__init__", defArgs s_Path_init, defBody s_Path_init, defScope s_Path_init, [], []⟩, ⟨("Path", some "route"), "route", "Path.route", defArgs s_Path_route, defBody s_Path_route, defScope s_Path_route, [], []⟩, ⟨("Path", some "total"), "total", "Path.total", defArgs s_Path_total, defBody s_Path_total, defScope s_Path_total, [], []⟩, ⟨("Path", some "begin"), "begin", "Path.begin", defArgs s_Path_begin, defBody s_Path_begin, defScope s_Path_begin, [], []⟩, ⟨("Path", some "legs"), "legs", "Path.legs", defArgs s_Path_legs, defBody s_Path_legs, defScope s_Path_legs, [], []⟩, ⟨("Path", some "leg"), "leg", "Path.leg", defArgs s_Path_leg, defBody s_Path_leg, defScope s_Path_leg, [], []⟩, ⟨("Path", some "leg_at"), "leg_at", "Path.leg_at", defArgs s_Path_leg_at, defBody s_Path_leg_at, defScope s_Path_leg_at, [], []⟩, ⟨("Path", some "start"), "start", "Path.start", defArgs s_Path_start, defBody s_Path_start, defScope s_Path_start, [], []⟩, ⟨("Path", some "vector"), "vector", "Path.vector", defArgs s_Path_vector, defBody s_Path_vector, defScope s_Path_vector, [], []⟩, ⟨("Path", some "_on_leg"), "_on_leg", "Path._on_leg", defArgs s_Path_on_leg, defBody s_Path_on_leg, defScope s_Path_on_leg, [], []⟩, ⟨("Path", some "place"), "place", "Path.place", defArgs s_Path_place, defBody s_Path_place, defScope s_Path_place, [], []⟩, ⟨("Path", some "piece"), "piece", "Path.piece", defArgs s_Path_piece, defBody s_Path_piece, defScope s_Path_piece, [], []⟩]
def faL : List He.Fa := [.glo "root_down", .glo "root_up", .glo "common", .glo "cross", .glo "dot", .glo "point_square", .glo "sign", .glo "crosses", .glo "squares", .glo "distance_down", .glo "leg_between", .glo "leg_length", .glo "window", .glo "apart", .glo "are_above", .glo "box_at", .glo "common_ticks", .glo "occupies", .glo "fastest", .glo "gap_between", .glo "quiet_ticks", .glo "probe", .glo "landing_of", .glo "wake_clash", .glo "clash", .glo "_law_start", .glo "_law_draw", .glo "_law_pick", .glo "_law_is", .glo "_law_root_up", .glo "_law_cross", .glo "_law_dot", .glo "_law_point_closer", .glo "_law_closer", .glo "_law_names", .glo "_law_legs", .glo "_law_chart", .glo "_law_leg", .glo "_law_lengths", .glo "_law_walk", .glo "_law_begins", .glo "_law_leg_at", .glo "_law_place_on", .glo "_law_piece", .glo "_law_kind", .glo "_law_rules", .glo "_law_winds", .glo "_law_wind_at", .glo "_law_bounds", .glo "_law_target", .glo "_law_towards", .glo "_law_small_chart", .glo "_law_next", .glo "_law_code", .glo "_law_tube", .glo "_law_separated", .glo "_law_window", .glo "_law_near", .glo "_law_wake", .glo "_law_clash", .glo "_law_occupies", .glo "_law_made", .glo "_law_offer", .glo "_law_drawn", .glo "law", .glo "Path", .cls "Path", .noat "Path" "_route", .noat "Path" "_legs", .noat "Path" "_points", .noat "Path" "_begins", .mkr "Path", .meth "Path" "route", .meth "Path" "total", .meth "Path" "begin", .meth "Path" "legs", .meth "Path" "leg", .meth "Path" "leg_at", .meth "Path" "start", .meth "Path" "vector", .meth "Path" "_on_leg", .meth "Path" "place", .meth "Path" "piece", .free "min", .free "enumerate", .free "max", .free "any", .free "range", .free "len", .free "sum", .free "tuple", .free "isinstance", .free "str", .free "int", .free "zip", .free "bool", .free "sorted", .free "list", .free "abs"]
def exA (K : PySem.W.Frag) : Bool := decide (PySem.W.nsIn K mainGlobals "isqrt" = some (some (.builtin "math.isqrt")))
def xcL : List XcD := []
def exB (K : PySem.W.Frag) : Bool := exA K && ((xcL.all fun x => x.ok K ""))
theorem bi_16 {K : PySem.W.Frag} {h : Heap} {mg : Str → Option Value} (X : K.In h) (G : h.Ns mainGlobals mg) (c : exA K = true) : mg "isqrt" = some (.builtin "math.isqrt") := PySem.W.mg_of X G (of_decide_eq_true c)
theorem facts {l : PySem.W.OpenLaw} {w : World} {K : PySem.W.Frag} {h : Heap} {mg : Str → Option Value} {f : Addr} (X : K.In h) (G : h.Ns mainGlobals mg) (hfa : mg "law" = some (.ref f)) (c : He.SaysX faL fnL [] [("distance_down", none), ("gap_between", none)] exB w h K) (ce : xcL.map (fnB K) = xcL.map XcD.val) :
    ∃ (K : Fg) (fd : FuncData) (cs : List (Addr × Addr)), K.In h ∧ (∀ p ∈ cs, h.get? p.2 = some { cls := .none, data := .fields #[] }) ∧ (∀ p ∈ cs, K.lookup p.2 = none) ∧ (∀ p ∈ cs, PySem.W.codeHdIn K p.1 p.2 = true) ∧ (∀ (s : Shared) (u : Value), BindsTo s fd ⟨[u], []⟩ [("_law_script", u)]) ∧
      ∀ base : Heap, K.In base → base.Ns mainGlobals mg → (∀ p ∈ cs, GxR.TabB base mg p.1 p.2) → FnOk l.prog w K mg base CX0 11 f fd ["_law_script"] (sp0 K (cs.map (·.2)) (fOne (rSeq rInt)) (fun ns => ns.length ≤ 63) rBool fun _ y => y = true) := by
  obtain ⟨D0, e0, d0⟩ := df_of c.t.d X G 0 0 (n := "root_down") (st := s_root_down) (ps := ["n"]) rfl rfl (fun _ _ F => F.binds fun _ _ _ _ _ _ us hl => match us, hl with | [_], _ => rfl)
  obtain ⟨D1, e1, d1⟩ := df_of c.t.d X G 1 1 (n := "root_up") (st := s_root_up) (ps := ["n"]) rfl rfl (fun _ _ F => F.binds fun _ _ _ _ _ _ us hl => match us, hl with | [_], _ => rfl)
  obtain ⟨D2, e2, d2⟩ := df_of c.t.d X G 2 2 (n := "common") (st := s_common) (ps := ["first", "second"]) rfl rfl (fun _ _ F => F.binds fun _ _ _ _ _ _ us hl => match us, hl with | [_, _], _ => rfl)
  obtain ⟨D3, e3, d3⟩ := df_of c.t.d X G 3 3 (n := "cross") (st := s_cross) (ps := ["origin", "first", "second"]) rfl rfl (fun _ _ F => F.binds fun _ _ _ _ _ _ us hl => match us, hl with | [_, _, _], _ => rfl)
  obtain ⟨D4, e4, d4⟩ := df_of c.t.d X G 4 4 (n := "dot") (st := s_dot) (ps := ["origin", "first", "second"]) rfl rfl (fun _ _ F => F.binds fun _ _ _ _ _ _ us hl => match us, hl with | [_, _, _], _ => rfl)
  obtain ⟨D5, e5, d5⟩ := df_of c.t.d X G 5 5 (n := "point_square") (st := s_point_square) (ps := ["point", "start", "end"]) rfl rfl (fun _ _ F => F.binds fun _ _ _ _ _ _ us hl => match us, hl with | [_, _, _], _ => rfl)
  obtain ⟨D6, e6, d6⟩ := df_of c.t.d X G 6 6 (n := "sign") (st := s_sign) (ps := ["number"]) rfl rfl (fun _ _ F => F.binds fun _ _ _ _ _ _ us hl => match us, hl with | [_], _ => rfl)
  obtain ⟨D7, e7, d7⟩ := df_of c.t.d X G 7 7 (n := "crosses") (st := s_crosses) (ps := ["start", "end", "other_start", "other_end"]) rfl rfl (fun _ _ F => F.binds fun _ _ _ _ _ _ us hl => match us, hl with | [_, _, _, _], _ => rfl)
  obtain ⟨D8, e8, d8⟩ := df_of c.t.d X G 8 8 (n := "squares") (st := s_squares) (ps := ["ends"]) rfl rfl (fun _ _ F => F.binds fun _ _ _ _ _ _ us hl => match us, hl with | [_], _ => rfl)
  obtain ⟨D9, e9, d9⟩ := df_of c.t.d X G 9 9 (n := "distance_down") (st := s_distance_down) (ps := ["first", "second"]) rfl rfl (fun _ _ F => F.binds fun _ _ _ _ _ _ us hl => match us, hl with | [_, _], _ => rfl)
  obtain ⟨D10, e10, d10⟩ := df_of c.t.d X G 10 10 (n := "leg_between") (st := s_leg_between) (ps := ["chart", "start", "end"]) rfl rfl (fun _ _ F => F.binds fun _ _ _ _ _ _ us hl => match us, hl with | [_, _, _], _ => rfl)
  obtain ⟨D11, e11, d11⟩ := df_of c.t.d X G 11 11 (n := "leg_length") (st := s_leg_length) (ps := ["chart", "start", "end"]) rfl rfl (fun _ _ F => F.binds fun _ _ _ _ _ _ us hl => match us, hl with | [_, _, _], _ => rfl)
  obtain ⟨D12, e12, d12⟩ := df_of c.t.d X G 12 12 (n := "window") (st := s_window) (ps := ["path", "tick", "boxes"]) rfl rfl (fun _ _ F => F.binds fun _ _ _ _ _ _ us hl => match us, hl with | [_, _, _], _ => rfl)
  obtain ⟨D13, e13, d13⟩ := df_of c.t.d X G 13 13 (n := "apart") (st := s_apart) (ps := ["gaps", "first", "second"]) rfl rfl (fun _ _ F => F.binds fun _ _ _ _ _ _ us hl => match us, hl with | [_, _, _], _ => rfl)
  obtain ⟨D14, e14, d14⟩ := df_of c.t.d X G 14 14 (n := "are_above") (st := s_are_above) (ps := ["rules", "box", "other_box"]) rfl rfl (fun _ _ F => F.binds fun _ _ _ _ _ _ us hl => match us, hl with | [_, _, _], _ => rfl)
  obtain ⟨D15, e15, d15⟩ := df_of c.t.d X G 15 15 (n := "box_at") (st := s_box_at) (ps := ["track", "tick"]) rfl rfl (fun _ _ F => F.binds fun _ _ _ _ _ _ us hl => match us, hl with | [_, _], _ => rfl)
  obtain ⟨D16, e16, d16⟩ := df_of c.t.d X G 16 16 (n := "common_ticks") (st := s_common_ticks) (ps := ["one", "other"]) rfl rfl (fun _ _ F => F.binds fun _ _ _ _ _ _ us hl => match us, hl with | [_, _], _ => rfl)
  obtain ⟨D17, e17, d17⟩ := df_of c.t.d X G 17 17 (n := "occupies") (st := s_occupies) (ps := ["offer", "sector", "tick"]) rfl rfl (fun _ _ F => F.binds fun _ _ _ _ _ _ us hl => match us, hl with | [_, _, _], _ => rfl)
  obtain ⟨D18, e18, d18⟩ := df_of c.t.d X G 18 18 (n := "fastest") (st := s_fastest) (ps := ["boxes"]) rfl rfl (fun _ _ F => F.binds fun _ _ _ _ _ _ us hl => match us, hl with | [_], _ => rfl)
  obtain ⟨D19, e19, d19⟩ := df_of c.t.d X G 19 19 (n := "gap_between") (st := s_gap_between) (ps := ["path", "box", "other_path", "other_box"]) rfl rfl (fun _ _ F => F.binds fun _ _ _ _ _ _ us hl => match us, hl with | [_, _, _, _], _ => rfl)
  obtain ⟨D20, e20, d20⟩ := df_of c.t.d X G 20 20 (n := "quiet_ticks") (st := s_quiet_ticks) (ps := ["rules", "one", "other", "tick", "speed"]) rfl rfl (fun _ _ F => F.binds fun _ _ _ _ _ _ us hl => match us, hl with | [_, _, _, _, _], _ => rfl)
  obtain ⟨D21, e21, d21⟩ := df_of c.t.d X G 21 21 (n := "probe") (st := s_probe) (ps := ["rules", "one", "other"]) rfl rfl (fun _ _ F => F.binds fun _ _ _ _ _ _ us hl => match us, hl with | [_, _, _], _ => rfl)
  obtain ⟨D22, e22, d22⟩ := df_of c.t.d X G 22 22 (n := "landing_of") (st := s_landing_of) (ps := ["offer"]) rfl rfl (fun _ _ F => F.binds fun _ _ _ _ _ _ us hl => match us, hl with | [_], _ => rfl)
  obtain ⟨D23, e23, d23⟩ := df_of c.t.d X G 23 23 (n := "wake_clash") (st := s_wake_clash) (ps := ["rules", "one", "other"]) rfl rfl (fun _ _ F => F.binds fun _ _ _ _ _ _ us hl => match us, hl with | [_, _, _], _ => rfl)
  obtain ⟨D24, e24, d24⟩ := df_of c.t.d X G 24 24 (n := "clash") (st := s_clash) (ps := ["rules", "one", "other"]) rfl rfl (fun _ _ F => F.binds fun _ _ _ _ _ _ us hl => match us, hl with | [_, _, _], _ => rfl)
  obtain ⟨D25, e25, d25⟩ := df_of c.t.d X G 25 25 (n := "_law_start") (st := s_start) (ps := ["_law_script"]) rfl rfl (fun _ _ F => F.binds fun _ _ _ _ _ _ us hl => match us, hl with | [_], _ => rfl)
  obtain ⟨D26, e26, d26⟩ := df_of c.t.d X G 26 26 (n := "_law_draw") (st := s_draw) (ps := ["_law_state", "_law_bound"]) rfl rfl (fun _ _ F => F.binds fun _ _ _ _ _ _ us hl => match us, hl with | [_, _], _ => rfl)
  obtain ⟨D27, e27, d27⟩ := df_of c.t.d X G 27 27 (n := "_law_pick") (st := s_pick) (ps := ["_law_state", "_law_things"]) rfl rfl (fun _ _ F => F.binds fun _ _ _ _ _ _ us hl => match us, hl with | [_, _], _ => rfl)
  obtain ⟨D28, e28, d28⟩ := df_of c.t.d X G 28 28 (n := "_law_is") (st := s_is) (ps := ["_law_actual", "_law_due"]) rfl rfl (fun _ _ F => F.binds fun _ _ _ _ _ _ us hl => match us, hl with | [_, _], _ => rfl)
  obtain ⟨D29, e29, d29⟩ := df_of c.t.d X G 29 29 (n := "_law_root_up") (st := s_law_root_up) (ps := ["_law_n"]) rfl rfl (fun _ _ F => F.binds fun _ _ _ _ _ _ us hl => match us, hl with | [_], _ => rfl)
  obtain ⟨D30, e30, d30⟩ := df_of c.t.d X G 30 30 (n := "_law_cross") (st := s_law_cross) (ps := ["_law_o", "_law_a", "_law_b"]) rfl rfl (fun _ _ F => F.binds fun _ _ _ _ _ _ us hl => match us, hl with | [_, _, _], _ => rfl)
  obtain ⟨D31, e31, d31⟩ := df_of c.t.d X G 31 31 (n := "_law_dot") (st := s_law_dot) (ps := ["_law_o", "_law_a", "_law_b"]) rfl rfl (fun _ _ F => F.binds fun _ _ _ _ _ _ us hl => match us, hl with | [_, _, _], _ => rfl)
  obtain ⟨D32, e32, d32⟩ := df_of c.t.d X G 32 32 (n := "_law_point_closer") (st := s_point_closer) (ps := ["_law_p", "_law_a", "_law_b", "_law_square"]) rfl rfl (fun _ _ F => F.binds fun _ _ _ _ _ _ us hl => match us, hl with | [_, _, _, _], _ => rfl)
  obtain ⟨D33, e33, d33⟩ := df_of c.t.d X G 33 33 (n := "_law_closer") (st := s_closer) (ps := ["_law_first", "_law_second", "_law_limit"]) rfl rfl (fun _ _ F => F.binds fun _ _ _ _ _ _ us hl => match us, hl with | [_, _, _], _ => rfl)
  obtain ⟨D34, e34, d34⟩ := df_of c.t.d X G 34 34 (n := "_law_names") (st := s_names) (ps := ["_law_state", "_law_many"]) rfl rfl (fun _ _ F => F.binds fun _ _ _ _ _ _ us hl => match us, hl with | [_, _], _ => rfl)
  obtain ⟨D35, e35, d35⟩ := df_of c.t.d X G 35 35 (n := "_law_legs") (st := s_legs) (ps := ["_law_state", "_law_names_here"]) rfl rfl (fun _ _ F => F.binds fun _ _ _ _ _ _ us hl => match us, hl with | [_, _], _ => rfl)
  obtain ⟨D36, e36, d36⟩ := df_of c.t.d X G 36 36 (n := "_law_chart") (st := s_chart) (ps := ["_law_state", "_law_many", "_law_size"]) rfl rfl (fun _ _ F => F.binds fun _ _ _ _ _ _ us hl => match us, hl with | [_, _, _], _ => rfl)
  obtain ⟨D37, e37, d37⟩ := df_of c.t.d X G 37 37 (n := "_law_leg") (st := s_leg) (ps := ["_law_chart_here", "_law_start_here", "_law_end"]) rfl rfl (fun _ _ F => F.binds fun _ _ _ _ _ _ us hl => match us, hl with | [_, _, _], _ => rfl)
  obtain ⟨D38, e38, d38⟩ := df_of c.t.d X G 38 38 (n := "_law_lengths") (st := s_lengths) (ps := ["_law_chart_here"]) rfl rfl (fun _ _ F => F.binds fun _ _ _ _ _ _ us hl => match us, hl with | [_], _ => rfl)
  obtain ⟨D39, e39, d39⟩ := df_of c.t.d X G 39 39 (n := "_law_walk") (st := s_walk) (ps := ["_law_state", "_law_chart_here", "_law_most"]) rfl rfl (fun _ _ F => F.binds fun _ _ _ _ _ _ us hl => match us, hl with | [_, _, _], _ => rfl)
  obtain ⟨D40, e40, d40⟩ := df_of c.t.d X G 40 40 (n := "_law_begins") (st := s_begins) (ps := ["_law_lengths_here", "_law_route"]) rfl rfl (fun _ _ F => F.binds fun _ _ _ _ _ _ us hl => match us, hl with | [_, _], _ => rfl)
  obtain ⟨D41, e41, d41⟩ := df_of c.t.d X G 41 41 (n := "_law_leg_at") (st := s_leg_at) (ps := ["_law_begins_here", "_law_progress"]) rfl rfl (fun _ _ F => F.binds fun _ _ _ _ _ _ us hl => match us, hl with | [_, _], _ => rfl)
  obtain ⟨D42, e42, d42⟩ := df_of c.t.d X G 42 42 (n := "_law_place_on") (st := s_place_on) (ps := ["_law_chart_here", "_law_route", "_law_begins_here", "_law_k", "_law_progress"]) rfl rfl (fun _ _ F => F.binds fun _ _ _ _ _ _ us hl => match us, hl with | [_, _, _, _, _], _ => rfl)
  obtain ⟨D43, e43, d43⟩ := df_of c.t.d X G 43 43 (n := "_law_piece") (st := s_piece) (ps := ["_law_chart_here", "_law_route", "_law_begins_here", "_law_low", "_law_high"]) rfl rfl (fun _ _ F => F.binds fun _ _ _ _ _ _ us hl => match us, hl with | [_, _, _, _, _], _ => rfl)
  obtain ⟨D44, e44, d44⟩ := df_of c.t.d X G 44 44 (n := "_law_kind") (st := s_kind) (ps := ["_law_state"]) rfl rfl (fun _ _ F => F.binds fun _ _ _ _ _ _ us hl => match us, hl with | [_], _ => rfl)
  obtain ⟨D45, e45, d45⟩ := df_of c.t.d X G 45 45 (n := "_law_rules") (st := s_rules) (ps := ["_law_state"]) rfl rfl (fun _ _ F => F.binds fun _ _ _ _ _ _ us hl => match us, hl with | [_], _ => rfl)
  obtain ⟨D46, e46, d46⟩ := df_of c.t.d X G 46 46 (n := "_law_winds") (st := s_winds) (ps := ["_law_state"]) rfl rfl (fun _ _ F => F.binds fun _ _ _ _ _ _ us hl => match us, hl with | [_], _ => rfl)
  obtain ⟨D47, e47, d47⟩ := df_of c.t.d X G 47 47 (n := "_law_wind_at") (st := s_wind_at) (ps := ["_law_winds_here", "_law_tick"]) rfl rfl (fun _ _ F => F.binds fun _ _ _ _ _ _ us hl => match us, hl with | [_, _], _ => rfl)
  obtain ⟨D48, e48, d48⟩ := df_of c.t.d X G 48 48 (n := "_law_bounds") (st := s_bounds) (ps := ["_law_chart_here", "_law_route", "_law_begins_here", "_law_k", "_law_speed", "_law_slip", "_law_wind"]) rfl rfl (fun _ _ F => F.binds fun _ _ _ _ _ _ us hl => match us, hl with | [_, _, _, _, _, _, _], _ => rfl)
  obtain ⟨D49, e49, d49⟩ := df_of c.t.d X G 49 49 (n := "_law_target") (st := s_target) (ps := ["_law_chart_here", "_law_route", "_law_k", "_law_level"]) rfl rfl (fun _ _ F => F.binds fun _ _ _ _ _ _ us hl => match us, hl with | [_, _, _, _], _ => rfl)
  obtain ⟨D50, e50, d50⟩ := df_of c.t.d X G 50 50 (n := "_law_towards") (st := s_towards) (ps := ["_law_level", "_law_goal", "_law_rate"]) rfl rfl (fun _ _ F => F.binds fun _ _ _ _ _ _ us hl => match us, hl with | [_, _, _], _ => rfl)
  obtain ⟨D51, e51, d51⟩ := df_of c.t.d X G 51 51 (n := "_law_small_chart") (st := s_small_chart) (ps := ["_law_state"]) rfl rfl (fun _ _ F => F.binds fun _ _ _ _ _ _ us hl => match us, hl with | [_], _ => rfl)
  obtain ⟨D52, e52, d52⟩ := df_of c.t.d X G 52 52 (n := "_law_next") (st := s_law_next) (ps := ["_law_chart_here", "_law_route", "_law_begins_here", "_law_course_here", "_law_kind_here", "_law_rules_here", "_law_winds_here", "_law_tick", "_law_box"]) rfl rfl (fun _ _ F => F.binds fun _ _ _ _ _ _ us hl => match us, hl with | [_, _, _, _, _, _, _, _, _], _ => rfl)
  obtain ⟨D53, e53, d53⟩ := df_of c.t.d X G 53 53 (n := "_law_code") (st := s_code) (ps := ["_law_chart_here", "_law_route", "_law_begins_here", "_law_course_here", "_law_rules_here", "_law_winds_here", "_law_tick", "_law_box", "_law_many"]) rfl rfl (fun _ _ F => F.binds fun _ _ _ _ _ _ us hl => match us, hl with | [_, _, _, _, _, _, _, _, _], _ => rfl)
  obtain ⟨D54, e54, d54⟩ := df_of c.t.d X G 54 54 (n := "_law_tube") (st := s_tube) (ps := ["_law_chart_here", "_law_route", "_law_begins_here", "_law_course_here", "_law_kind_here", "_law_rules_here", "_law_winds_here", "_law_tick", "_law_box"]) rfl rfl (fun _ _ F => F.binds fun _ _ _ _ _ _ us hl => match us, hl with | [_, _, _, _, _, _, _, _, _], _ => rfl)
  obtain ⟨D55, e55, d55⟩ := df_of c.t.d X G 55 55 (n := "_law_separated") (st := s_separated) (ps := ["_law_chart_here", "_law_rules_here", "_law_one", "_law_box", "_law_other", "_law_other_box"]) rfl rfl (fun _ _ F => F.binds fun _ _ _ _ _ _ us hl => match us, hl with | [_, _, _, _, _, _], _ => rfl)
  obtain ⟨D56, e56, d56⟩ := df_of c.t.d X G 56 56 (n := "_law_window") (st := s_law_window) (ps := ["_law_one", "_law_tick", "_law_boxes"]) rfl rfl (fun _ _ F => F.binds fun _ _ _ _ _ _ us hl => match us, hl with | [_, _, _], _ => rfl)
  obtain ⟨D57, e57, d57⟩ := df_of c.t.d X G 57 57 (n := "_law_near") (st := s_near) (ps := ["_law_chart_here", "_law_rules_here", "_law_one", "_law_other", "_law_tick"]) rfl rfl (fun _ _ F => F.binds fun _ _ _ _ _ _ us hl => match us, hl with | [_, _, _, _, _], _ => rfl)
  obtain ⟨D58, e58, d58⟩ := df_of c.t.d X G 58 58 (n := "_law_wake") (st := s_wake) (ps := ["_law_chart_here", "_law_rules_here", "_law_one", "_law_other"]) rfl rfl (fun _ _ F => F.binds fun _ _ _ _ _ _ us hl => match us, hl with | [_, _, _, _], _ => rfl)
  obtain ⟨D59, e59, d59⟩ := df_of c.t.d X G 59 59 (n := "_law_clash") (st := s_law_clash) (ps := ["_law_chart_here", "_law_rules_here", "_law_one", "_law_other"]) rfl rfl (fun _ _ F => F.binds fun _ _ _ _ _ _ us hl => match us, hl with | [_, _, _, _], _ => rfl)
  obtain ⟨D60, e60, d60⟩ := df_of c.t.d X G 60 60 (n := "_law_occupies") (st := s_law_occupies) (ps := ["_law_chart_here", "_law_one", "_law_sector", "_law_tick"]) rfl rfl (fun _ _ F => F.binds fun _ _ _ _ _ _ us hl => match us, hl with | [_, _, _, _], _ => rfl)
  obtain ⟨D61, e61, d61⟩ := df_of c.t.d X G 61 61 (n := "_law_made") (st := s_made) (ps := ["_law_chart_here", "_law_lengths_here", "_law_rules_here", "_law_winds_here", "_law_course_here", "_law_kind_here", "_law_tick", "_law_box"]) rfl rfl (fun _ _ F => F.binds fun _ _ _ _ _ _ us hl => match us, hl with | [_, _, _, _, _, _, _, _], _ => rfl)
  obtain ⟨D62, e62, d62⟩ := df_of c.t.d X G 62 62 (n := "_law_offer") (st := s_offer) (ps := ["_law_chart_here", "_law_mine"]) rfl rfl (fun _ _ F => F.binds fun _ _ _ _ _ _ us hl => match us, hl with | [_, _], _ => rfl)
  obtain ⟨D63, e63, d63⟩ := df_of c.t.d X G 63 63 (n := "_law_drawn") (st := s_drawn) (ps := ["_law_state", "_law_chart_here", "_law_lengths_here", "_law_rules_here", "_law_winds_here", "_law_route"]) rfl rfl (fun _ _ F => F.binds fun _ _ _ _ _ _ us hl => match us, hl with | [_, _, _, _, _, _], _ => rfl)
  obtain ⟨D64, e64, d64⟩ := df_of c.t.d X G 64 64 (n := "law") (st := s_law) (ps := ["_law_script"]) rfl rfl (fun _ _ F => F.binds fun _ _ _ _ _ _ us hl => match us, hl with | [_], _ => rfl)
  obtain ⟨fdPath0, FDPath0⟩ := c.t.d.def_ 65 rfl
  have FPath0 := fun_ofD (st := s_Path_init) FDPath0
  have bPath0 := FPath0.binds (ps := ["self", "chart", "route"]) fun _ _ _ _ _ _ us hl => match us, hl with | [_, _, _], _ => rfl
  obtain ⟨fdPath1, FDPath1⟩ := c.t.d.def_ 66 rfl
  have FPath1 := fun_ofD (st := s_Path_route) FDPath1
  have bPath1 := FPath1.binds (ps := ["self"]) fun _ _ _ _ _ _ us hl => match us, hl with | [_], _ => rfl
  obtain ⟨fdPath2, FDPath2⟩ := c.t.d.def_ 67 rfl
  have FPath2 := fun_ofD (st := s_Path_total) FDPath2
  have bPath2 := FPath2.binds (ps := ["self"]) fun _ _ _ _ _ _ us hl => match us, hl with | [_], _ => rfl
  obtain ⟨fdPath3, FDPath3⟩ := c.t.d.def_ 68 rfl
  have FPath3 := fun_ofD (st := s_Path_begin) FDPath3
  have bPath3 := FPath3.binds (ps := ["self", "index"]) fun _ _ _ _ _ _ us hl => match us, hl with | [_, _], _ => rfl
  obtain ⟨fdPath4, FDPath4⟩ := c.t.d.def_ 69 rfl
  have FPath4 := fun_ofD (st := s_Path_legs) FDPath4
  have bPath4 := FPath4.binds (ps := ["self"]) fun _ _ _ _ _ _ us hl => match us, hl with | [_], _ => rfl
  obtain ⟨fdPath5, FDPath5⟩ := c.t.d.def_ 70 rfl
  have FPath5 := fun_ofD (st := s_Path_leg) FDPath5
  have bPath5 := FPath5.binds (ps := ["self", "index"]) fun _ _ _ _ _ _ us hl => match us, hl with | [_, _], _ => rfl
  obtain ⟨fdPath6, FDPath6⟩ := c.t.d.def_ 71 rfl
  have FPath6 := fun_ofD (st := s_Path_leg_at) FDPath6
  have bPath6 := FPath6.binds (ps := ["self", "progress"]) fun _ _ _ _ _ _ us hl => match us, hl with | [_, _], _ => rfl
  obtain ⟨fdPath7, FDPath7⟩ := c.t.d.def_ 72 rfl
  have FPath7 := fun_ofD (st := s_Path_start) FDPath7
  have bPath7 := FPath7.binds (ps := ["self", "index"]) fun _ _ _ _ _ _ us hl => match us, hl with | [_, _], _ => rfl
  obtain ⟨fdPath8, FDPath8⟩ := c.t.d.def_ 73 rfl
  have FPath8 := fun_ofD (st := s_Path_vector) FDPath8
  have bPath8 := FPath8.binds (ps := ["self", "index"]) fun _ _ _ _ _ _ us hl => match us, hl with | [_, _], _ => rfl
  obtain ⟨fdPath9, FDPath9⟩ := c.t.d.def_ 74 rfl
  have FPath9 := fun_ofD (st := s_Path_on_leg) FDPath9
  have bPath9 := FPath9.binds (ps := ["self", "index", "progress"]) fun _ _ _ _ _ _ us hl => match us, hl with | [_, _, _], _ => rfl
  obtain ⟨fdPath10, FDPath10⟩ := c.t.d.def_ 75 rfl
  have FPath10 := fun_ofD (st := s_Path_place) FDPath10
  have bPath10 := FPath10.binds (ps := ["self", "progress"]) fun _ _ _ _ _ _ us hl => match us, hl with | [_, _], _ => rfl
  obtain ⟨fdPath11, FDPath11⟩ := c.t.d.def_ 76 rfl
  have FPath11 := fun_ofD (st := s_Path_piece) FDPath11
  have bPath11 := FPath11.binds (ps := ["self", "low", "high"]) fun _ _ _ _ _ _ us hl => match us, hl with | [_, _, _], _ => rfl
  let N : Nm K mg := ⟨D0, D1, D2, D3, D4, D5, D6, D7, D8, D9, D10, D11, D12, D13, D14, D15, D16, D17, D18, D19, D20, D21, D22, D23, D24, D25, D26, D27, D28, D29, D30, D31, D32, D33, D34, D35, D36, D37, D38, D39, D40, D41, D42, D43, D44, D45, D46, D47, D48, D49, D50, D51, D52, D53, D54, D55, D56, D57, D58, D59, D60, D61, D62, D63, D64, ⟨_, (He.cT K ("distance_down", none)).2, e9⟩, ⟨_, (He.cT K ("gap_between", none)).2, e19⟩, He.ga K "Path", ⟨He.cls_ok (c.t.d.fact 66 rfl), fun f hf => by
    simp only [List.mem_cons, List.not_mem_nil, or_false] at hf
    rcases hf with e | e | e | e <;> subst e
    · exact He.noat_ok (c.t.d.fact 67 rfl)
    · exact He.noat_ok (c.t.d.fact 68 rfl)
    · exact He.noat_ok (c.t.d.fact 69 rfl)
    · exact He.noat_ok (c.t.d.fact 70 rfl)⟩, ⟨_, _, FPath0, He.glo_ok X G (c.t.d.fact 65 (f := .glo "Path") rfl), He.mkr_ok (c.t.d.fact 71 rfl), bPath0⟩, ⟨_, _, FPath1, He.meth_ok (c.t.d.fact 72 rfl), bPath1⟩, ⟨_, _, FPath2, He.meth_ok (c.t.d.fact 73 rfl), bPath2⟩, ⟨_, _, FPath3, He.meth_ok (c.t.d.fact 74 rfl), bPath3⟩, ⟨_, _, FPath4, He.meth_ok (c.t.d.fact 75 rfl), bPath4⟩, ⟨_, _, FPath5, He.meth_ok (c.t.d.fact 76 rfl), bPath5⟩, ⟨_, _, FPath6, He.meth_ok (c.t.d.fact 77 rfl), bPath6⟩, ⟨_, _, FPath7, He.meth_ok (c.t.d.fact 78 rfl), bPath7⟩, ⟨_, _, FPath8, He.meth_ok (c.t.d.fact 79 rfl), bPath8⟩, ⟨_, _, FPath9, He.meth_ok (c.t.d.fact 80 rfl), bPath9⟩, ⟨_, _, FPath10, He.meth_ok (c.t.d.fact 81 rfl), bPath10⟩, ⟨_, _, FPath11, He.meth_ok (c.t.d.fact 82 rfl), bPath11⟩⟩
  have T : Bt mg := ⟨He.free_ok X G (c.t.d.fact 83 (f := .free "min") rfl), He.free_ok X G (c.t.d.fact 84 (f := .free "enumerate") rfl), He.free_ok X G (c.t.d.fact 85 (f := .free "max") rfl), He.free_ok X G (c.t.d.fact 86 (f := .free "any") rfl), He.free_ok X G (c.t.d.fact 87 (f := .free "range") rfl), He.free_ok X G (c.t.d.fact 88 (f := .free "len") rfl), He.free_ok X G (c.t.d.fact 89 (f := .free "sum") rfl), He.free_ok X G (c.t.d.fact 90 (f := .free "tuple") rfl), He.free_ok X G (c.t.d.fact 91 (f := .free "isinstance") rfl), He.free_ok X G (c.t.d.fact 92 (f := .free "str") rfl), He.free_ok X G (c.t.d.fact 93 (f := .free "int") rfl), He.free_ok X G (c.t.d.fact 94 (f := .free "zip") rfl), He.free_ok X G (c.t.d.fact 95 (f := .free "bool") rfl), He.free_ok X G (c.t.d.fact 96 (f := .free "sorted") rfl), He.free_ok X G (c.t.d.fact 97 (f := .free "list") rfl), He.free_ok X G (c.t.d.fact 98 (f := .free "abs") rfl), bi_16 X G (He.ba c.more).1⟩
  have ef : f = D64.f := by
    have z := hfa.symm.trans D64.m
    injection z with z
    injection z
  subst ef
  have b := FunD.bindsA (ps := ["_law_script"]) d64 fun _ _ _ _ _ _ us hl => match us, hl with | [_], _ => rfl
  refine ⟨K, D64.fd, ([("distance_down", none), ("gap_between", none)] : List (Str × Option Str)).map (He.cT K), X, fun p hp => by
    obtain ⟨z, hz, e⟩ := List.mem_map.mp hp
    rw [← e]
    exact c.empty z hz, fun p hp => by
    obtain ⟨z, hz, e⟩ := List.mem_map.mp hp
    rw [← e]
    exact c.out z hz, fun p hp => by
    obtain ⟨z, hz, e⟩ := List.mem_map.mp hp
    rw [← e]
    exact c.hd z hz, fun s v => b s [v] rfl, fun base _ _ tb => ok_law N T ⟨tb (He.cT K ("distance_down", none)) (List.mem_map.mpr ⟨_, by simp, rfl⟩), tb (He.cT K ("gap_between", none)) (List.mem_map.mpr ⟨_, by simp, rfl⟩)⟩⟩
end Law
open PySem PySem.W PyProof.Rows
set_option maxRecDepth 100000 in
set_option maxHeartbeats 0 in
theorem PySem.Challenge.cw_skyapart_k25_clashes_of_offers_holds : PySem.Challenge.rw_skyapart_k25_clashes_of_offers.Holds := by
  w_on; o_law
  o_head (Sk.hookL Law.asL Law.faL Law.fnL [] [("distance_down", none), ("gap_between", none)] Law.exB Law.xcL); (case hw => w_witness2)
  refine Sk.walk_tabsE (l := PySem.Challenge.rw_skyapart_k25_clashes_of_offers) (k := 11) (x := "_law_script") rfl rfl ⟨rfl, by decide, by decide⟩ ?F
  case F =>
    intro w mg fa h Y G hmg
    obtain ⟨K, KX, c, ce⟩ := Y
    exact Law.facts KX G hmg c ce
