import PyProof.Rows.All
import Wide.All
import OpenK.AllK
import Wide.FinOn
import PyProof.EqAt
import PyProof.EqKinds
import PyProof.TupleCall
import HandS.ForMost
import HandS.ForExc
import HandS.Wide
import HandS.IsInst
import HandS.RevRange
import HandS.Conv
import HandS.AnyAll
import HandS.Evl
import HandS.Gcd
import HandS.Star
import HandS.More
import HandS.Zip
import HandS.Flt
import HandS.ExcInit
import HandS.ExcOwn
import HandS.ExcField
import HandS.TryOnly
import HandS.TryMany
import HandS.Nested
import HandS.FStr
import KE.KSuper
import KE.KExcSuper
import HandS.Iter
import KE.GoesEnum
import HandS.Exc
import HandS.Comp
import PyProof.GenQ
import HandS.GenList
import PyProof.ConsumeS
import PyProof.GenComp
import HandS.EndTab
import HandS.HeadWalk
import HandS.HeadHook4
import PyProof.WalkInts
import HandS.Deep
import PyProof.SumAny
import HandS.TupMul
import PyProof.FactsAll.list_4
import KE.SortData
import KE.DataMinMax
import HandS.SortKw
import PyProof.Rows.SumAny
import HandS.TupAny
import HandS.Text
import PySem.Challenge.RW_skyapart_k22_requests_and_menus
set_option Elab.async false
set_option linter.all false
set_option maxRecDepth 100000
set_option maxHeartbeats 4100000
/-! Sk1: typed data over the hand layer: what a value stands for, worlds, the weakest readings. -/
namespace Sk
open PySem L2 Evl

abbrev Fg := PySem.W.Frag
theorem _root_.Evl.Ex.upd2 {H H' : Hp} {p : Addr} {o : HO} (e : Ex H H') : Ex (upd H p o) (upd H' p o) := fun a u h => by
  by_cases q : a = p
  · subst q
    rw [upd_same] at h ⊢
    exact h
  · rw [upd_ne q] at h ⊢
    exact e a u h

/-! ### what a value stands for -/
structure Rp (α : Type) where
  rep : Fg → Hp → V → α → Prop
  mono : ∀ {K : Fg} {G G' : Hp} {v : V} {x : α}, Ex G G' → rep K G v x → rep K G' v x
/-- of several values -/
structure RpF (α : Type) where
  rep : Fg → Hp → List V → α → Prop
  mono : ∀ {K : Fg} {G G' : Hp} {vs : List V} {x : α}, Ex G G' → rep K G vs x → rep K G' vs x
def rInt : Rp Int := ⟨fun _ _ v x => v = .int x, fun _ h => h⟩
def rBool : Rp Bool := ⟨fun _ _ v x => v = .bl x, fun _ h => h⟩
def rStr : Rp Str := ⟨fun _ _ v x => v = .str x, fun _ h => h⟩
def rNon : Rp Unit := ⟨fun _ _ v _ => v = .non, fun _ h => h⟩
def rAdr : Rp Addr := ⟨fun _ _ v x => v = .ref x, fun _ h => h⟩
def rAny : Rp Unit := ⟨fun _ _ _ _ => True, fun _ h => h⟩
def rTy : Rp String := ⟨fun _ _ v x => v = .ty x, fun _ h => h⟩
/-- a thing or None -/
def rOpt {α : Type} (r : Rp α) : Rp (Option α) := ⟨fun K G v x => match x with
  | none => v = .non
  | some y => v ≠ .non ∧ r.rep K G v y, fun {K G G' v x} e h => by
    cases x with
    | none => exact h
    | some y => exact ⟨h.1, r.mono e h.2⟩⟩
/-- items, one by one -/
def All2 {α : Type} (p : V → α → Prop) : List V → List α → Prop
  | [], [] => True
  | v :: vs, x :: xs => p v x ∧ All2 p vs xs
  | _, _ => False
theorem All2.mono {α : Type} {p q : V → α → Prop} (h : ∀ v x, p v x → q v x) : ∀ {vs : List V} {xs : List α}, All2 p vs xs → All2 q vs xs
  | [], [], _ => trivial
  | _ :: _, _ :: _, ⟨a, b⟩ => ⟨h _ _ a, All2.mono h b⟩
  | [], _ :: _, z => z
  | _ :: _, [], z => z
theorem All2.length {α : Type} {p : V → α → Prop} : ∀ {vs : List V} {xs : List α}, All2 p vs xs → vs.length = xs.length
  | [], [], _ => rfl
  | _ :: vs, _ :: xs, ⟨_, b⟩ => by rw [List.length_cons, List.length_cons, All2.length b]
  | [], _ :: _, z => z.elim
  | _ :: _, [], z => z.elim
theorem All2.get {α : Type} {p : V → α → Prop} : ∀ {vs : List V} {xs : List α} {i : Nat} {v : V}, All2 p vs xs → vs[i]? = some v → ∃ x, xs[i]? = some x ∧ p v x
  | [], _, _, _, _, e => by simp at e
  | _ :: _, [], _, _, z, _ => z.elim
  | w :: vs, x :: xs, 0, v, ⟨a, _⟩, e => by
    have e' : w = v := by simpa using e
    subst e'
    exact ⟨x, rfl, a⟩
  | w :: vs, x :: xs, i + 1, v, ⟨_, b⟩, e => All2.get (i := i) b (by simpa using e)
theorem All2.get' {α : Type} {p : V → α → Prop} : ∀ {vs : List V} {xs : List α} {i : Nat} {x : α}, All2 p vs xs → xs[i]? = some x → ∃ v, vs[i]? = some v ∧ p v x
  | _, [], _, _, _, e => by rw [List.getElem?_nil] at e; cases e
  | [], _ :: _, _, _, z, _ => z.elim
  | w :: vs, x :: xs, 0, y, ⟨a, _⟩, e => by
    have ey : x = y := by simpa using e
    subst ey
    exact ⟨w, rfl, a⟩
  | w :: vs, x :: xs, i + 1, y, ⟨_, b⟩, e => All2.get' (i := i) b (by simpa using e)
theorem All2.append {α : Type} {p : V → α → Prop} : ∀ {vs : List V} {xs : List α} {vs' : List V} {xs' : List α}, All2 p vs xs → All2 p vs' xs' → All2 p (vs ++ vs') (xs ++ xs')
  | [], [], _, _, _, h => h
  | _ :: _, _ :: _, _, _, ⟨a, b⟩, h => ⟨a, All2.append b h⟩
  | [], _ :: _, _, _, z, _ => z.elim
  | _ :: _, [], _, _, z, _ => z.elim
theorem All2.take {α : Type} {p : V → α → Prop} : ∀ {vs : List V} {xs : List α} (n : Nat), All2 p vs xs → All2 p (vs.take n) (xs.take n)
  | _, _, 0, _ => by simp [All2]
  | [], [], _ + 1, _ => trivial
  | _ :: _, _ :: _, n + 1, ⟨a, b⟩ => ⟨a, All2.take n b⟩
  | [], _ :: _, _ + 1, z => z.elim
  | _ :: _, [], _ + 1, z => z.elim
theorem All2.drop {α : Type} {p : V → α → Prop} : ∀ {vs : List V} {xs : List α} (n : Nat), All2 p vs xs → All2 p (vs.drop n) (xs.drop n)
  | _, _, 0, h => h
  | [], [], _ + 1, _ => trivial
  | _ :: _, _ :: _, n + 1, ⟨_, b⟩ => All2.drop n b
  | [], _ :: _, _ + 1, z => z.elim
  | _ :: _, [], _ + 1, z => z.elim
theorem All2.set {α : Type} {p : V → α → Prop} {v : V} {x : α} (hp : p v x) : ∀ {vs : List V} {xs : List α} (i : Nat), All2 p vs xs → All2 p (vs.set i v) (xs.set i x)
  | [], [], _, _ => trivial
  | _ :: _, _ :: _, 0, ⟨_, b⟩ => ⟨hp, b⟩
  | _ :: _, _ :: _, i + 1, ⟨a, b⟩ => ⟨a, All2.set hp i b⟩
  | [], _ :: _, _, z => z.elim
  | _ :: _, [], _, z => z.elim
theorem All2.map_int : ∀ {vs : List V} {xs : List Int}, All2 (fun v x => v = .int x) vs xs → vs = xs.map V.int
  | [], [], _ => rfl
  | _ :: _, _ :: _, ⟨a, b⟩ => by
    rw [a, All2.map_int b]
    rfl
  | [], _ :: _, z => z.elim
  | _ :: _, [], z => z.elim
theorem All2.of_int : ∀ (xs : List Int), All2 (fun v x => v = .int x) (xs.map V.int) xs
  | [] => trivial
  | _ :: xs => ⟨rfl, All2.of_int xs⟩
/-- a list of like things; a tuple of like things -/
def rLst {α : Type} (r : Rp α) : Rp (List α) := ⟨fun K G v xs => ∃ a vs, v = .ref a ∧ G a = some (.lst vs) ∧ All2 (r.rep K G) vs xs,
  fun e ⟨a, vs, h1, h2, h3⟩ => ⟨a, vs, h1, e _ _ h2, h3.mono fun _ _ z => r.mono e z⟩⟩
/-- a list that is read alone (the script, a module's) -/
def rSeq {α : Type} (r : Rp α) : Rp (List α) := ⟨fun K G v xs => ∃ a vs, v = .ref a ∧ SqL K G a vs ∧ All2 (r.rep K G) vs xs,
  fun e ⟨a, vs, h1, h2, h3⟩ => ⟨a, vs, h1, ex_l e h2, h3.mono fun _ _ z => r.mono e z⟩⟩
def rTpv {α : Type} (r : Rp α) : Rp (List α) := ⟨fun K G v xs => ∃ a vs, v = .ref a ∧ SqT K G a vs ∧ All2 (r.rep K G) vs xs,
  fun e ⟨a, vs, h1, h2, h3⟩ => ⟨a, vs, h1, ex_t e h2, h3.mono fun _ _ z => r.mono e z⟩⟩
def fNil : RpF Unit := ⟨fun _ _ vs _ => vs = [], fun _ h => h⟩
def fOne {α : Type} (r : Rp α) : RpF α := ⟨fun K G vs x => ∃ v, vs = [v] ∧ r.rep K G v x, fun e ⟨v, h1, h2⟩ => ⟨v, h1, r.mono e h2⟩⟩
def fCons {α β : Type} (r : Rp α) (f : RpF β) : RpF (α × β) := ⟨fun K G vs x => ∃ v ws, vs = v :: ws ∧ r.rep K G v x.1 ∧ f.rep K G ws x.2, fun e ⟨v, ws, h1, h2, h3⟩ => ⟨v, ws, h1, r.mono e h2, f.mono e h3⟩⟩
/-- a tuple of unlike things -/
def rTup {α : Type} (f : RpF α) : Rp α := ⟨fun K G v x => ∃ a vs, v = .ref a ∧ SqT K G a vs ∧ f.rep K G vs x, fun e ⟨a, vs, h1, h2, h3⟩ => ⟨a, vs, h1, ex_t e h2, f.mono e h3⟩⟩

/-! ### the frame's slots -/
structure Slot where
  {α : Type}
  r : Rp α
  x : α
abbrev Gm := List (Option Slot)
def EnvR (K : Fg) (G : Hp) : St → Gm → Prop
  | [], [] => True
  | _ :: σ, none :: Γ => EnvR K G σ Γ
  | v :: σ, some s :: Γ => (∃ u, v = some u ∧ s.r.rep K G u s.x) ∧ EnvR K G σ Γ
  | _, _ => False
theorem EnvR.mono {K : Fg} {G G' : Hp} (e : Ex G G') : ∀ {σ : St} {Γ : Gm}, EnvR K G σ Γ → EnvR K G' σ Γ
  | [], [], _ => trivial
  | _ :: σ, none :: Γ, h => EnvR.mono e (σ := σ) (Γ := Γ) h
  | _ :: _, some s :: _, ⟨⟨u, h1, h2⟩, h⟩ => ⟨⟨u, h1, s.r.mono e h2⟩, EnvR.mono e h⟩
  | [], _ :: _, h => h.elim
  | _ :: _, [], h => h.elim
theorem EnvR.get {K : Fg} {G : Hp} : ∀ {σ : St} {Γ : Gm} {i : Nat} {s : Slot}, EnvR K G σ Γ → Γ[i]? = some (some s) → ∃ u, σ[i]? = some (some u) ∧ s.r.rep K G u s.x
  | [], [], _, _, _, e => by simp at e
  | v :: σ, none :: Γ, 0, s, _, e => by simp at e
  | v :: σ, some s' :: Γ, 0, s, ⟨⟨u, h1, h2⟩, _⟩, e => by
    have e' : s' = s := by simpa using e
    subst e'
    exact ⟨u, by rw [h1]; rfl, h2⟩
  | v :: σ, none :: Γ, i + 1, s, h, e => EnvR.get (i := i) (show EnvR K G σ Γ from h) (by simpa using e)
  | v :: σ, some s' :: Γ, i + 1, s, ⟨_, h⟩, e => EnvR.get (i := i) h (by simpa using e)
  | [], _ :: _, _, _, h, _ => h.elim
  | _ :: _, [], _, _, h, _ => h.elim
theorem EnvR.set {K : Fg} {G : Hp} {s : Slot} {u : V} (hu : s.r.rep K G u s.x) : ∀ {σ : St} {Γ : Gm} (i : Nat), EnvR K G σ Γ → EnvR K G (σ.set i (some u)) (Γ.set i (some s))
  | [], [], _, _ => trivial
  | v :: σ, none :: Γ, 0, h => ⟨⟨u, rfl, hu⟩, h⟩
  | v :: σ, some s' :: Γ, 0, ⟨_, h⟩ => ⟨⟨u, rfl, hu⟩, h⟩
  | v :: σ, none :: Γ, i + 1, h => EnvR.set hu i (σ := σ) (Γ := Γ) h
  | v :: σ, some s' :: Γ, i + 1, ⟨a, h⟩ => ⟨a, EnvR.set hu i h⟩
  | [], _ :: _, _, h => h.elim
  | _ :: _, [], _, h => h.elim
/-- forgetting -/
def Wk : Gm → Gm → Prop
  | [], [] => True
  | _ :: Γ, none :: Γ' => Wk Γ Γ'
  | some s :: Γ, some s' :: Γ' => s = s' ∧ Wk Γ Γ'
  | _, _ => False
theorem Wk.env {K : Fg} {G : Hp} : ∀ {σ : St} {Γ Γ' : Gm}, Wk Γ Γ' → EnvR K G σ Γ → EnvR K G σ Γ'
  | [], [], [], _, _ => trivial
  | v :: σ, g :: Γ, none :: Γ', h, q => by
    cases g with
    | none => exact Wk.env (σ := σ) (Γ := Γ) (Γ' := Γ') h q
    | some s => exact Wk.env (σ := σ) (Γ := Γ) (Γ' := Γ') h q.2
  | v :: σ, some s :: Γ, some s' :: Γ', ⟨e, h⟩, q => by
    subst e
    exact ⟨q.1, Wk.env h q.2⟩
  | v :: σ, none :: Γ, some s' :: Γ', h, _ => h.elim
  | [], _ :: _, _, _, q => q.elim
  | _ :: _, [], _, _, q => q.elim
  | _, [], _ :: _, h, _ => h.elim
  | _, _ :: _, [], h, _ => h.elim
/-- the slots at js are forgotten -/
def wipeG (Γ : Gm) : List Nat → Gm
  | [] => Γ
  | j :: js => wipeG (Γ.set j none) js

/-! ### objects that are one's own: they may change -/
structure Ow (α : Type) where
  rep : Fg → Hp → HO → α → Prop
  mono : ∀ {K : Fg} {G G' : Hp} {o : HO} {x : α}, Ex G G' → rep K G o x → rep K G' o x
structure Own where
  a : Addr
  {α : Type}
  r : Ow α
  x : α
def oLst {α : Type} (r : Rp α) : Ow (List α) := ⟨fun K G o xs => ∃ vs, o = .lst vs ∧ All2 (r.rep K G) vs xs, fun e ⟨vs, h1, h2⟩ => ⟨vs, h1, h2.mono fun _ _ z => r.mono e z⟩⟩

/-! ### worlds -/
def Tb (H : Hp) (P : Addr) : Prop := ∃ ps : Array Value, H P = some (.tbl ps) ∧ TriplesOk ps.toList
/-- from a world (G H) to a world (G' H'): what G tells stays, what H tells stays but for the tables T and the objects M -/
structure Stp (T M : List Addr) (G H G' H' : Hp) : Prop where
  sub : Ex G' H'
  g : Ex G G'
  h : ∀ a o, H a = some o → a ∉ T → a ∉ M → H' a = some o
  th : ∀ a, H a ≠ none → H' a ≠ none
  fr : ∀ a, G a = none → G' a ≠ none → H a = none
  tab : ∀ P ∈ T, Tb H P → Tb H' P
theorem Stp.refl {T M : List Addr} {G H : Hp} (s : Ex G H) : Stp T M G H G H :=
  ⟨s, Ex.refl _, fun _ _ h _ _ => h, fun _ h => h, fun _ h h' => (h' h).elim, fun _ _ h => h⟩
theorem Stp.trans {T M M' : List Addr} {G0 H0 G1 H1 G2 H2 : Hp} (a : Stp T M G0 H0 G1 H1) (b : Stp T M' G1 H1 G2 H2) (m : ∀ c ∈ M', c ∈ M ∨ H0 c = none) : Stp T M G0 H0 G2 H2 where
  sub := b.sub
  g := a.g.trans b.g
  h := fun c o q t n => b.h c o (a.h c o q t n) t fun z => by
    rcases m c z with y | y
    · exact n y
    · rw [y] at q
      cases q
  th := fun c q => b.th c (a.th c q)
  fr := fun c q q2 => by
    by_cases q1 : G1 c = none
    · have z := b.fr c q1 q2
      cases e : H0 c with
      | none => rfl
      | some o => exact (a.th c (by rw [e]; simp) z).elim
    · exact a.fr c q q1
  tab := fun P hP q => b.tab P hP (a.tab P hP q)
theorem Stp.weak {T M M' : List Addr} {G H G' H' : Hp} (a : Stp T M G H G' H') (m : ∀ c ∈ M, c ∈ M') : Stp T M' G H G' H' :=
  ⟨a.sub, a.g, fun c o q t n => a.h c o q t fun z => n (m c z), a.th, a.fr, a.tab⟩
/-- a new thing that will not change -/
theorem Stp.new {T M : List Addr} {G H : Hp} {p : Addr} {o : HO} (s : Ex G H) (hp : H p = none) : Stp T M G H (upd G p o) (upd H p o) where
  sub := s.upd2
  g := Ex.new (by cases e : G p with
    | none => rfl
    | some q => rw [s p q e] at hp; cases hp)
  h := fun a u e _ _ => by rw [upd_ne (ne_of_none e hp)]; exact e
  th := fun a e => by
    by_cases q : a = p
    · rw [q, upd_same]; simp
    · rw [upd_ne q]; exact e
  fr := fun a e e2 => by
    by_cases q : a = p
    · rw [q]; exact hp
    · rw [upd_ne q] at e2; exact (e2 e).elim
  tab := fun P _ ⟨ps, h1, h2⟩ => ⟨ps, by rw [upd_ne (ne_of_none h1 hp)]; exact h1, h2⟩
/-- a new object of one's own -/
theorem Stp.newOwn {T M : List Addr} {G H : Hp} {p : Addr} {o : HO} (s : Ex G H) (hp : H p = none) : Stp T M G H G (upd H p o) where
  sub := s.trans (Ex.new hp)
  g := Ex.refl _
  h := fun a u e _ _ => by rw [upd_ne (ne_of_none e hp)]; exact e
  th := fun a e => by
    by_cases q : a = p
    · rw [q, upd_same]; simp
    · rw [upd_ne q]; exact e
  fr := fun a e e2 => (e2 e).elim
  tab := fun P _ ⟨ps, h1, h2⟩ => ⟨ps, by rw [upd_ne (ne_of_none h1 hp)]; exact h1, h2⟩
/-- an own object changes -/
theorem Stp.mut {T : List Addr} {G H : Hp} {p : Addr} {o : HO} (s : Ex G H) (hp : G p = none) (ht : p ∉ T) : Stp T [p] G H G (upd H p o) where
  sub := s.mut hp
  g := Ex.refl _
  h := fun a u e _ n => by rw [upd_ne (by intro z; exact n (by simp [z]))]; exact e
  th := fun a e => by
    by_cases q : a = p
    · rw [q, upd_same]; simp
    · rw [upd_ne q]; exact e
  fr := fun a e e2 => (e2 e).elim
  tab := fun P hP ⟨ps, h1, h2⟩ => ⟨ps, by rw [upd_ne (by intro z; exact ht (z ▸ hP))]; exact h1, h2⟩

/-- where a def began: its tables, the objects it was handed to change, the world at its entry; heaps that stay told -/
structure Bs where
  T : List Addr
  M : List Addr
  G0 : Hp
  H0 : Hp
  bs : List Hp
structure OwnOk (K : Fg) (B : Bs) (G H : Hp) (w : Own) : Prop where
  ob : ∃ o, H w.a = some o ∧ w.r.rep K G o w.x
  g : G w.a = none
  t : w.a ∉ B.T
  m : B.H0 w.a = none ∨ w.a ∈ B.M
structure Ws (K : Fg) (B : Bs) (Γ : Gm) (O : List Own) (σ : St) (G H : Hp) : Prop where
  st : Stp B.T B.M B.G0 B.H0 G H
  tab : ∀ P ∈ B.T, Tb H P ∧ G P = none
  bs : ∀ g ∈ B.bs, Ex g G
  env : EnvR K G σ Γ
  own : ∀ w ∈ O, OwnOk K B G H w
  nd : (O.map (·.a)).Nodup
  mh : ∀ m ∈ B.M, B.H0 m ≠ none
section
variable {K : Fg} {B : Bs} {Γ Γ' : Gm} {O O' : List Own} {σ : St} {G H G' H' : Hp}
theorem Ws.sub (W : Ws K B Γ O σ G H) : Ex G H := W.st.sub
/-- all that changes is new -/
theorem Ws.step (W : Ws K B Γ O σ G H) (s : Stp B.T [] G H G' H') : Ws K B Γ O σ G' H' where
  st := W.st.trans s fun _ z => absurd z (by simp)
  tab := fun P hP => ⟨s.tab P hP (W.tab P hP).1, by
    cases e : G' P with
    | none => rfl
    | some o =>
      have z := s.fr P (W.tab P hP).2 (by rw [e]; simp)
      obtain ⟨⟨ps, h1, _⟩, _⟩ := W.tab P hP
      rw [h1] at z
      cases z⟩
  bs := fun g hg => (W.bs g hg).trans s.g
  env := W.env.mono s.g
  own := fun w hw => by
    obtain ⟨⟨o, h1, h2⟩, h3, h4, h5⟩ := W.own w hw
    refine ⟨⟨o, s.h _ _ h1 h4 (by simp), w.r.mono s.g h2⟩, ?_, h4, h5⟩
    cases e : G' w.a with
    | none => rfl
    | some u =>
      have z := s.fr _ h3 (by rw [e]; simp)
      rw [h1] at z
      cases z
  nd := W.nd
  mh := W.mh
theorem Ws.wk (W : Ws K B Γ O σ G H) (h : Wk Γ Γ') : Ws K B Γ' O σ G H := ⟨W.st, W.tab, W.bs, h.env W.env, W.own, W.nd, W.mh⟩
theorem Ws.set {s : Slot} {u : V} (W : Ws K B Γ O σ G H) (i : Nat) (h : s.r.rep K G u s.x) : Ws K B (Γ.set i (some s)) O (σ.set i (some u)) G H :=
  ⟨W.st, W.tab, W.bs, W.env.set h i, W.own, W.nd, W.mh⟩
/-- one more heap that stays told -/
theorem Ws.base (W : Ws K B Γ O σ G H) : Ws K { B with bs := G :: B.bs } Γ O σ G H := ⟨W.st, W.tab, fun g hg => by
  rcases List.mem_cons.mp hg with z | z
  · rw [z]; exact Ex.refl _
  · exact W.bs g z, W.env, fun w hw => let ⟨a, b, c, d⟩ := W.own w hw; ⟨a, b, c, d⟩, W.nd, W.mh⟩
theorem Ws.unbase {g : Hp} (W : Ws K { B with bs := g :: B.bs } Γ O σ G H) : Ws K B Γ O σ G H := ⟨W.st, W.tab, fun g' hg => W.bs g' (List.mem_cons_of_mem _ hg), W.env, fun w hw => let ⟨a, b, c, d⟩ := W.own w hw; ⟨a, b, c, d⟩, W.nd, W.mh⟩
theorem Ws.free (W : Ws K B Γ O σ G H) {p : Addr} (hp : H p = none) : B.H0 p = none := by
  cases e : B.H0 p with
  | none => rfl
  | some o => exact (W.st.th p (by rw [e]; simp) hp).elim
theorem Ws.notM (W : Ws K B Γ O σ G H) {p : Addr} (hp : H p = none) : p ∉ B.M := fun z => W.mh p z (W.free hp)
theorem Ws.freeG (W : Ws K B Γ O σ G H) {p : Addr} (hp : H p = none) : G p = none := by
  cases e : G p with
  | none => rfl
  | some o => rw [W.sub p o e] at hp; cases hp
theorem Ws.notT (W : Ws K B Γ O σ G H) {p : Addr} (hp : H p = none) : p ∉ B.T := fun z => by
  obtain ⟨⟨ps, h1, _⟩, _⟩ := W.tab p z
  rw [h1] at hp
  cases hp
/-- a new own object -/
theorem Ws.newOwn {α : Type} {p : Addr} {o : HO} {r : Ow α} {x : α} (W : Ws K B Γ O σ G H) (hp : H p = none) (h : r.rep K G o x) : Ws K B Γ (⟨p, r, x⟩ :: O) σ G (upd H p o) := by
  have s : Stp B.T [] G H G (upd H p o) := Stp.newOwn W.sub hp
  have W' := W.step s
  refine ⟨W'.st, W'.tab, W'.bs, W'.env, fun w hw => ?_, ?_, W.mh⟩
  · rcases List.mem_cons.mp hw with z | z
    · subst z
      exact ⟨⟨o, upd_same, h⟩, W.freeG hp, W.notT hp, .inl (W.free hp)⟩
    · exact W'.own w z
  · show (p :: O.map (·.a)).Nodup
    refine List.nodup_cons.mpr ⟨fun z => ?_, W.nd⟩
    obtain ⟨w, hw, e⟩ := List.mem_map.mp z
    obtain ⟨⟨u, h1, _⟩, _⟩ := W.own w hw
    rw [e, hp] at h1
    cases h1
/-- an own object at the head changes -/
theorem Ws.mutHd {α β : Type} {p : Addr} {o : HO} {r : Ow α} {x : α} {r' : Ow β} {x' : β} (W : Ws K B Γ (⟨p, r, x⟩ :: O) σ G H) (h : r'.rep K G o x') : Ws K B Γ (⟨p, r', x'⟩ :: O) σ G (upd H p o) := by
  obtain ⟨_, h3, h4, h5⟩ := W.own _ List.mem_cons_self
  have s : Stp B.T [p] G H G (upd H p o) := Stp.mut W.sub h3 h4
  refine ⟨W.st.trans s fun c hc => ?_, fun P hP => ⟨s.tab P hP (W.tab P hP).1, (W.tab P hP).2⟩, W.bs, W.env, fun w hw => ?_, W.nd, W.mh⟩
  · have e : c = p := by simpa using hc
    subst e
    exact h5.symm
  · have nd : p ∉ O.map (·.a) := (List.nodup_cons.mp W.nd).1
    rcases List.mem_cons.mp hw with z | z
    · subst z
      exact ⟨⟨o, upd_same, h⟩, h3, h4, h5⟩
    · obtain ⟨⟨u, g1, g2⟩, g3, g4, g5⟩ := W.own w (List.mem_cons_of_mem _ z)
      exact ⟨⟨u, by rw [upd_ne (fun e => nd (List.mem_map.mpr ⟨w, z, e⟩))]; exact g1, g2⟩, g3, g4, g5⟩
/-- the own objects in another order, some dropped -/
theorem Ws.perm (W : Ws K B Γ O σ G H) (hs : ∀ w ∈ O', w ∈ O) (hn : (O.map (·.a)).Nodup → (O'.map (·.a)).Nodup) : Ws K B Γ O' σ G H := ⟨W.st, W.tab, W.bs, W.env, fun w hw => W.own w (hs w hw), hn W.nd, W.mh⟩
end
end Sk


set_option Elab.async false
set_option linter.all false
set_option maxRecDepth 100000
set_option maxHeartbeats 4100000
/-! Sk2: the weakest readings of the hand layer's judgements, and rules over typed data. -/
namespace Sk
open PySem L2 Evl

/-! ### the weakest readings -/
section
variable {ι : Type} (F : ι → Cx)
def WE (e : Expr) : TE := fun σ H Q => ∃ t, (∀ i, PE (F i) e t) ∧ t σ H Q
def WT (e : Expr) : TT := fun σ H Q => ∃ t, (∀ i, PT (F i) e t) ∧ t σ H Q
def WP (e : Expr) : TT := fun σ H Q => ∃ t, (∀ i, PW (F i) e t) ∧ t σ H Q
def WTs (es : List Expr) : TT := fun σ H Q => ∃ t, (∀ i, PTs (F i) es t) ∧ t σ H Q
def WA (es : List Expr) : TA := fun σ H Q => ∃ t, (∀ i, PA (F i) es t) ∧ t σ H Q
def WG (e : Expr) : TG := fun v σ H Q => ∃ t, (∀ i, PG (F i) e t) ∧ t v σ H Q
def WGs (es : List Expr) : TGs := fun vs σ H Q => ∃ t, (∀ i, PGs (F i) es t) ∧ t vs σ H Q
def WI (tg e : Expr) : TI := fun σ H R => ∃ t, (∀ i, PI (F i) tg e t) ∧ t σ H R
def wOp (f : Value → Value → Sem Value) : R2 := fun x y H Q => ∃ r, (∀ i, OpR (F i) f r) ∧ r x y H Q
def wUn (f : Value → Sem Value) : V → Hp → VK → Prop := fun x H Q => ∃ r, (∀ i, UnR (F i) f r) ∧ r x H Q
def wIx : R2 := fun x y H Q => ∃ r, (∀ i, IxR (F i) r) ∧ r x y H Q
def wCl (f : Value) : List V → Hp → VK → Prop := fun vs H Q => ∃ r, (∀ i, CallR (F i) f r) ∧ r vs H Q
variable {F}
theorem WE.pe {e : Expr} (i : ι) : PE (F i) e (WE F e) := ⟨fun pins s σ H Q I ⟨_, p, q⟩ => (p i).run pins s σ H Q I q⟩
theorem WT.pt {e : Expr} (i : ι) : PT (F i) e (WT F e) := ⟨fun pins s σ H Q I ⟨_, p, q⟩ => (p i).run pins s σ H Q I q⟩
theorem WP.pw {e : Expr} (i : ι) : PW (F i) e (WP F e) := ⟨fun wh pins s σ H Q I ⟨_, p, q⟩ => (p i).run wh pins s σ H Q I q⟩
theorem WTs.pts {e : List Expr} (i : ι) : PTs (F i) e (WTs F e) := ⟨fun pins s σ H Q I ⟨_, p, q⟩ => (p i).run pins s σ H Q I q⟩
theorem WA.pa {es : List Expr} (i : ι) : PA (F i) es (WA F es) := ⟨fun pos pins s σ H Q I ⟨_, p, q⟩ => (p i).run pos pins s σ H Q I q⟩
theorem WG.pg {e : Expr} (i : ι) : PG (F i) e (WG F e) := ⟨fun pins s σ H v u Q I r ⟨_, p, q⟩ => (p i).run pins s σ H v u Q I r q⟩
theorem WGs.pgs {es : List Expr} (i : ι) : PGs (F i) es (WGs F es) := ⟨fun pins s σ H v u Q I r ⟨_, p, q⟩ => (p i).run pins s σ H v u Q I r q⟩
theorem WI.pi {tg e : Expr} (i : ι) : PI (F i) tg e (WI F tg e) := ⟨fun pins s σ H R I ⟨_, p, q⟩ => (p i).run pins s σ H R I q⟩
theorem wOp.op {f : Value → Value → Sem Value} (i : ι) : OpR (F i) f (wOp F f) := fun pins s σ H x y v u Q I rx ry ⟨_, p, q⟩ => p i pins s σ H x y v u Q I rx ry q
theorem wUn.un {f : Value → Sem Value} (i : ι) : UnR (F i) f (wUn F f) := fun pins s σ H x v Q I rx ⟨_, p, q⟩ => p i pins s σ H x v Q I rx q
theorem wIx.ix (i : ι) : IxR (F i) (wIx F) := fun val sl pins s σ H x y v u Q I rx ry ⟨_, p, q⟩ hs => p i val sl pins s σ H x y v u Q I rx ry q hs
theorem wCl.cl {f : Value} (i : ι) : CallR (F i) f (wCl F f) := fun pins s σ H xs us Q I r ⟨_, p, q⟩ => p i pins s σ H xs us Q I r q
end
section
variable (X : Cx)
def WS (st : Stmt) : TS := fun D σ H => ∃ t, PS X st t ∧ t D σ H
def WSs (st : List Stmt) : TS := fun D σ H => ∃ t, PSs X st t ∧ t D σ H
variable {X}
theorem WS.ps {st : Stmt} : PS X st (WS X st) := ⟨fun pins s σ H D I ⟨_, p, q⟩ => p.run pins s σ H D I q⟩
theorem WSs.pss {st : List Stmt} : PSs X st (WSs X st) := ⟨fun pins s σ H D I ⟨_, p, q⟩ => p.run pins s σ H D I q⟩
theorem WSs.cons {st : Stmt} {rest : List Stmt} {D : Ends} {σ : St} {H : Hp} {t : TS} (p : PS X st t) (h : t { D with nx := WSs X rest D } σ H) : WSs X (st :: rest) D σ H := ⟨_, pss_cons p WSs.pss, h⟩
theorem WSs.nil {D : Ends} {σ : St} {H : Hp} (h : D.nx σ H) : WSs X [] D σ H := ⟨_, pss_nil, h⟩
end

/-! ### rules over typed data -/
section
variable {ι : Type} (F : ι → Cx) (K : Fg) (B : Bs) (Γ : Gm) (O : List Own)
/-- an expression gives x, as r says; behind it the own objects are O' -/
def DW (e : Expr) {α : Type} (r : Rp α) (Φ : α → List Own → Prop) : Prop :=
  ∀ σ G H, Ws K B Γ O σ G H → ∀ Q : VK, (∀ x O' v G' H', Φ x O' → Ws K B Γ O' σ G' H' → Ex G G' → r.rep K G' v x → Q v H') → WE F e σ H Q
def DT (e : Expr) (Φ : Bool → List Own → Prop) : Prop :=
  ∀ σ G H, Ws K B Γ O σ G H → ∀ Q : Bool → Hp → Prop, (∀ b O' G' H', Φ b O' → Ws K B Γ O' σ G' H' → Ex G G' → Q b H') → WT F e σ H Q
def DP (e : Expr) (Φ : Bool → List Own → Prop) : Prop :=
  ∀ σ G H, Ws K B Γ O σ G H → ∀ Q : Bool → Hp → Prop, (∀ b O' G' H', Φ b O' → Ws K B Γ O' σ G' H' → Ex G G' → Q b H') → WP F e σ H Q
def DTs (es : List Expr) (Φ : Bool → List Own → Prop) : Prop :=
  ∀ σ G H, Ws K B Γ O σ G H → ∀ Q : Bool → Hp → Prop, (∀ b O' G' H', Φ b O' → Ws K B Γ O' σ G' H' → Ex G G' → Q b H') → WTs F es σ H Q
def DA (es : List Expr) {α : Type} (r : RpF α) (Φ : α → List Own → Prop) : Prop :=
  ∀ σ G H, Ws K B Γ O σ G H → ∀ Q : List V → Hp → Prop, (∀ x O' v G' H', Φ x O' → Ws K B Γ O' σ G' H' → Ex G G' → r.rep K G' v x → Q v H') → WA F es σ H Q
/-- a two-place operation; a one-place one; a call of a built-in -/
def OW (f : Value → Value → Sem Value) {α β γ : Type} (ra : Rp α) (rb : Rp β) (x : α) (y : β) (rc : Rp γ) (Φ : γ → List Own → Prop) : Prop :=
  ∀ σ G H v w, Ws K B Γ O σ G H → ra.rep K G v x → rb.rep K G w y → ∀ Q : VK, (∀ z O' u G' H', Φ z O' → Ws K B Γ O' σ G' H' → Ex G G' → rc.rep K G' u z → Q u H') → wOp F f v w H Q
def UW (f : Value → Sem Value) {α γ : Type} (ra : Rp α) (x : α) (rc : Rp γ) (Φ : γ → List Own → Prop) : Prop :=
  ∀ σ G H v, Ws K B Γ O σ G H → ra.rep K G v x → ∀ Q : VK, (∀ z O' u G' H', Φ z O' → Ws K B Γ O' σ G' H' → Ex G G' → rc.rep K G' u z → Q u H') → wUn F f v H Q
def IW {α β γ : Type} (ra : Rp α) (rb : Rp β) (x : α) (y : β) (rc : Rp γ) (Φ : γ → List Own → Prop) : Prop :=
  ∀ σ G H v w, Ws K B Γ O σ G H → ra.rep K G v x → rb.rep K G w y → ∀ Q : VK, (∀ z O' u G' H', Φ z O' → Ws K B Γ O' σ G' H' → Ex G G' → rc.rep K G' u z → Q u H') → wIx F v w H Q
def CW (f : Value) {α γ : Type} (ra : RpF α) (x : α) (rc : Rp γ) (Φ : γ → List Own → Prop) : Prop :=
  ∀ σ G H vs, Ws K B Γ O σ G H → ra.rep K G vs x → ∀ Q : VK, (∀ z O' u G' H', Φ z O' → Ws K B Γ O' σ G' H' → Ex G G' → rc.rep K G' u z → Q u H') → wCl F f vs H Q
/-- a promise is asked -/
def SW (sp : Sp) (dvs : List V) {α γ : Type} (ra : RpF α) (x : α) (rc : Rp γ) (Φ : γ → List Own → Prop) : Prop :=
  ∀ σ G H vs, Ws K B Γ O σ G H → ra.rep K G vs x → ∀ Q : VK, (∀ z O' u G' H', Φ z O' → Ws K B Γ O' σ G' H' → Ex G G' → rc.rep K G' u z → Q u H') → sp (vs ++ dvs) H Q E0
end
section
variable {ι : Type} {F : ι → Cx} {K : Fg} {B : Bs} {Γ : Gm} {O : List Own} {α β γ : Type} {ra : Rp α} {rb : Rp β} {rc : Rp γ} {a b c e : Expr} {es : List Expr} {pos p : Pos} {n : Str}

/-! names, constants -/
class At (Γ : Gm) (i : Nat) {α : outParam Type} (r : outParam (Rp α)) (x : outParam α) : Prop where
  get : Γ[i]? = some (some ⟨r, x⟩)
instance at0 {Γ : Gm} {α : Type} {r : Rp α} {x : α} : At (some ⟨r, x⟩ :: Γ) 0 r x := ⟨rfl⟩
instance atS {Γ : Gm} {g : Option Slot} {i : Nat} {α : Type} {r : Rp α} {x : α} [h : At Γ i r x] : At (g :: Γ) (i + 1) r x := ⟨h.get⟩
theorem d_var (i : Nat) {x : α} {Φ : α → List Own → Prop} [hA : At Γ i ra x] (k : Φ x O) (hN : ∀ j, (F j).N[i]? = some n := by intro _; rfl)
    (hv : ∀ j, Vis (F j).env.scope n := by intro _; first | exact Or.inl rfl | exact Or.inr (Or.inl rfl) | exact Or.inr (Or.inr rfl)) (hd : (n == ("__debug__" : Str)) = false := by decide)
    (hcd : (n == ("__classdict__" : Str)) = false := by decide) : DW F K B Γ O (.Name n pos) ra Φ := by
  intro σ G H W Q q
  obtain ⟨u, h1, h2⟩ := W.env.get hA.get
  exact ⟨_, fun j => pe_var (hN j) (hv j) hd hcd, u, h1, q x O u G H k W (Ex.refl _) h2⟩
theorem d_int {j : Int} {i : Nat} {Φ : Int → List Own → Prop} (k : Φ j O) : DW F K B Γ O (.Constant (.int j) i pos) rInt Φ :=
  fun σ G H W Q q => ⟨_, fun _ => pe_int, q j O _ G H k W (Ex.refl _) rfl⟩
theorem d_bl {j : Bool} {i : Nat} {Φ : Bool → List Own → Prop} (k : Φ j O) : DW F K B Γ O (.Constant (.bool j) i pos) rBool Φ :=
  fun σ G H W Q q => ⟨_, fun _ => pe_bl, q j O _ G H k W (Ex.refl _) rfl⟩
theorem d_str {j : Str} {i : Nat} {Φ : Str → List Own → Prop} (k : Φ j O) : DW F K B Γ O (.Constant (.str j) i pos) rStr Φ :=
  fun σ G H W Q q => ⟨_, fun _ => pe_str, q j O _ G H k W (Ex.refl _) rfl⟩
theorem d_non {i : Nat} {Φ : Unit → List Own → Prop} (k : Φ () O) : DW F K B Γ O (.Constant .none i pos) rNon Φ :=
  fun σ G H W Q q => ⟨_, fun _ => pe_non, q () O _ G H k W (Ex.refl _) rfl⟩
/-- None where a thing or None is wanted -/
theorem d_none {i : Nat} {Φ : Option α → List Own → Prop} (k : Φ none O) : DW F K B Γ O (.Constant .none i pos) (rOpt ra) Φ :=
  fun σ G H W Q q => ⟨_, fun _ => pe_non, q none O _ G H k W (Ex.refl _) rfl⟩
/-- a module's constant; a built-in class as a value -/
theorem d_globF {v : V} {u : Value} {x : α} {Φ : α → List Own → Prop} (hm : ∀ j, (F j).mg n = some u) (r : RelV v u) (hx : ∀ G, ra.rep K G v x) (k : Φ x O) (hg : ∀ j, Gl (F j) n := by intro _; rfl) (hd : (n == ("__debug__" : Str)) = false := by decide) :
    DW F K B Γ O (.Name n pos) ra Φ :=
  fun σ G H W Q q => ⟨_, fun j => pe_glob (hg j) (hm j) r hd, q x O _ G H k W (Ex.refl _) (hx G)⟩
theorem d_bltnF {v : V} {u : Value} {x : α} {Φ : α → List Own → Prop} (hm : ∀ j, (F j).mg n = none) (hv : bootBuiltins n = some u) (r : RelV v u) (hx : ∀ G, ra.rep K G v x) (k : Φ x O) (hg : ∀ j, Gl (F j) n := by intro _; rfl)
    (hn : n ≠ "__name__" := by decide) (hd : (n == ("__debug__" : Str)) = false := by decide) : DW F K B Γ O (.Name n pos) ra Φ :=
  fun σ G H W Q q => ⟨_, fun j => pe_bltn (hg j) (hm j) hv r hn hd, q x O _ G H k W (Ex.refl _) (hx G)⟩
/-- seen as another kind of thing -/
theorem d_as {x : α} {f : α → β → Prop} {Φ : β → List Own → Prop} (h : DW F K B Γ O e ra fun x O1 => ∃ y, (∀ G v, ra.rep K G v x → rb.rep K G v y) ∧ Φ y O1) : DW F K B Γ O e rb Φ := fun σ G H W Q q =>
  h σ G H W Q fun x O' v G' H' ⟨y, c, k⟩ W' e' hv => q y O' v G' H' k W' e' (c _ _ hv)
theorem d_mono {Φ Ψ : α → List Own → Prop} (h : DW F K B Γ O e ra Φ) (k : ∀ x O', Φ x O' → Ψ x O') : DW F K B Γ O e ra Ψ := fun σ G H W Q q => h σ G H W Q fun x O' v G' H' p => q x O' v G' H' (k x O' p)
theorem dt_mono {Φ Ψ : Bool → List Own → Prop} (h : DT F K B Γ O e Φ) (k : ∀ x O', Φ x O' → Ψ x O') : DT F K B Γ O e Ψ := fun σ G H W Q q => h σ G H W Q fun x O' G' H' p => q x O' G' H' (k x O' p)

/-! operators -/
theorem d_bin {op : Operator} {Φ : γ → List Own → Prop} (h : DW F K B Γ O a ra fun x O1 => DW F K B Γ O1 b rb fun y O2 => OW F K B Γ O2 (binaryOp op) ra rb x y rc Φ) : DW F K B Γ O (.BinOp a op b pos) rc Φ := by
  intro σ G H W Q q
  refine ⟨_, fun i => pe_op (wOp.op i) (WE.pe i) (WE.pe i), ?_⟩
  refine h σ G H W _ fun x O1 v G1 H1 h1 W1 e1 r1 => ?_
  refine h1 σ G1 H1 W1 _ fun y O2 w G2 H2 h2 W2 e2 r2 => ?_
  exact h2 σ G2 H2 v w W2 (ra.mono e2 r1) r2 Q fun z O' u G' H' k W' e' r' => q z O' u G' H' k W' ((e1.trans e2).trans e') r'
theorem d_un {op : UnaryOp} {Φ : γ → List Own → Prop} (h : DW F K B Γ O a ra fun x O1 => UW F K B Γ O1 (unaryOp op) ra x rc Φ) : DW F K B Γ O (.UnaryOp op a pos) rc Φ := by
  intro σ G H W Q q
  refine ⟨_, fun i => pe_un (wUn.un i) (WE.pe i), ?_⟩
  refine h σ G H W _ fun x O1 v G1 H1 h1 W1 e1 r1 => ?_
  exact h1 σ G1 H1 v W1 r1 Q fun z O' u G' H' k W' e' r' => q z O' u G' H' k W' (e1.trans e') r'
theorem d_cmp {op : CmpOp} {Φ : γ → List Own → Prop} (h : DW F K B Γ O a ra fun x O1 => DW F K B Γ O1 b rb fun y O2 => OW F K B Γ O2 (compareOp op) ra rb x y rc Φ)
    (hm : behindInMarks op b = false := by first | exact nomark _ | rfl) : DW F K B Γ O (.Compare a [op] [b] pos) rc Φ := by
  intro σ G H W Q q
  refine ⟨_, fun i => pe_cmpR (wOp.op i) (WE.pe i) (WE.pe i) hm, ?_⟩
  refine h σ G H W _ fun x O1 v G1 H1 h1 W1 e1 r1 => ?_
  refine h1 σ G1 H1 W1 _ fun y O2 w G2 H2 h2 W2 e2 r2 => ?_
  exact h2 σ G2 H2 v w W2 (ra.mono e2 r1) r2 Q fun z O' u G' H' k W' e' r' => q z O' u G' H' k W' ((e1.trans e2).trans e') r'
theorem dt_cmp {op : CmpOp} {Φ : Bool → List Own → Prop} (h : DW F K B Γ O a ra fun x O1 => DW F K B Γ O1 b rb fun y O2 => OW F K B Γ O2 (compareOp op) ra rb x y rBool Φ)
    (hm : behindInMarks op b = false := by first | exact nomark _ | rfl) : DT F K B Γ O (.Compare a [op] [b] pos) Φ := by
  intro σ G H W Q q
  refine ⟨_, fun i => pt_cmpR (wOp.op i) (WE.pe i) (WE.pe i) hm, ?_⟩
  refine h σ G H W _ fun x O1 v G1 H1 h1 W1 e1 r1 => ?_
  refine h1 σ G1 H1 W1 _ fun y O2 w G2 H2 h2 W2 e2 r2 => ?_
  exact h2 σ G2 H2 v w W2 (ra.mono e2 r1) r2 _ fun z O' u G' H' k W' e' r' => ⟨z, r', q z O' G' H' k W' ((e1.trans e2).trans e')⟩
/-- a op b op' c -/
theorem d_chain {op op' : CmpOp} {Φ : Bool → List Own → Prop} (h : DW F K B Γ O a ra fun x O1 => DW F K B Γ O1 b rb fun y O2 => OW F K B Γ O2 (compareOp op) ra rb x y rBool fun z O3 =>
      (z = true → DW F K B Γ O3 c rc fun w O4 => OW F K B Γ O4 (compareOp op') rb rc y w rBool Φ) ∧ (z = false → Φ false O3))
    (hm : lastMarks [op, op'] [b, c] = false := by with_unfolding_all rfl) : DW F K B Γ O (.Compare a [op, op'] [b, c] pos) rBool Φ := by
  intro σ G H W Q q
  refine ⟨_, fun i => pe_chain (wOp.op i) (wOp.op i) (WE.pe i) (WE.pe i) (WE.pe i) hm, ?_⟩
  refine h σ G H W _ fun x O1 v G1 H1 h1 W1 e1 r1 => ?_
  refine h1 σ G1 H1 W1 _ fun y O2 w G2 H2 h2 W2 e2 r2 => ?_
  refine h2 σ G2 H2 v w W2 (ra.mono e2 r1) r2 _ fun z O3 u G3 H3 k W3 e3 r3 => ⟨z, r3, ?_⟩
  have e13 := (e1.trans e2).trans e3
  cases z with
  | false => exact q false O3 _ G3 H3 (k.2 rfl) W3 e13 rfl
  | true =>
    refine k.1 rfl σ G3 H3 W3 _ fun w' O4 v4 G4 H4 h4 W4 e4 r4 => ?_
    exact h4 σ G4 H4 w v4 W4 (rb.mono (e3.trans e4) r2) r4 Q fun z O' u G' H' k W' e' r' => q z O' u G' H' k W' ((e13.trans e4).trans e') r'
theorem dt_chain {op op' : CmpOp} {Φ : Bool → List Own → Prop} (h : DW F K B Γ O a ra fun x O1 => DW F K B Γ O1 b rb fun y O2 => OW F K B Γ O2 (compareOp op) ra rb x y rBool fun z O3 =>
      (z = true → DW F K B Γ O3 c rc fun w O4 => OW F K B Γ O4 (compareOp op') rb rc y w rBool Φ) ∧ (z = false → Φ false O3))
    (hm : lastMarks [op, op'] [b, c] = false := by with_unfolding_all rfl) : DT F K B Γ O (.Compare a [op, op'] [b, c] pos) Φ := by
  intro σ G H W Q q
  refine ⟨_, fun i => pt_chain (wOp.op i) (wOp.op i) (WE.pe i) (WE.pe i) (WE.pe i) hm, ?_⟩
  refine h σ G H W _ fun x O1 v G1 H1 h1 W1 e1 r1 => ?_
  refine h1 σ G1 H1 W1 _ fun y O2 w G2 H2 h2 W2 e2 r2 => ?_
  refine h2 σ G2 H2 v w W2 (ra.mono e2 r1) r2 _ fun z O3 u G3 H3 k W3 e3 r3 => ⟨z, r3, ?_⟩
  have e13 := (e1.trans e2).trans e3
  cases z with
  | false => exact ⟨false, rfl, q false O3 G3 H3 (k.2 rfl) W3 e13⟩
  | true =>
    refine k.1 rfl σ G3 H3 W3 _ fun w' O4 v4 G4 H4 h4 W4 e4 r4 => ?_
    exact h4 σ G4 H4 w v4 W4 (rb.mono (e3.trans e4) r2) r4 _ fun z O' u G' H' k W' e' r' => ⟨z, r', q z O' G' H' k W' ((e13.trans e4).trans e')⟩

/-! tests -/
theorem dt_val {Φ : Bool → List Own → Prop} (h : DW F K B Γ O e rBool Φ) (he : ∀ i whole, isTrue e (F i).env whole = (do let v ← whole; standAt e.pos; holding [v] (truthy v)) := by intro _ _; rfl) : DT F K B Γ O e Φ := by
  intro σ G H W Q q
  refine ⟨_, fun i => pt_val (WE.pe i) (he i), ?_⟩
  exact h σ G H W _ fun x O1 v G1 H1 k W1 e1 r1 => ⟨x, r1, q x O1 G1 H1 k W1 e1⟩
theorem dt_not {Φ : Bool → List Own → Prop} (h : DT F K B Γ O a fun x O1 => Φ (!x) O1) : DT F K B Γ O (.UnaryOp .Not a pos) Φ := by
  intro σ G H W Q q
  refine ⟨_, fun i => pt_not (WT.pt i), ?_⟩
  exact h σ G H W _ fun x O1 G1 H1 k W1 e1 => q _ O1 G1 H1 k W1 e1
theorem dt_bool {op : BoolOp} {Φ : Bool → List Own → Prop} (h : DP F K B Γ O (.BoolOp op es pos) Φ) : DT F K B Γ O (.BoolOp op es pos) Φ := by
  intro σ G H W Q q
  exact ⟨_, fun i => (WP.pw i).pt, h σ G H W Q q⟩
theorem dp_and {Φ : Bool → List Own → Prop} (h : DT F K B Γ O a fun x O1 => (x = true → DP F K B Γ O1 (.BoolOp .And (b :: es) pos) Φ) ∧ (x = false → Φ false O1)) : DP F K B Γ O (.BoolOp .And (a :: b :: es) pos) Φ := by
  intro σ G H W Q q
  refine ⟨_, fun i => pw_and (WT.pt i) (WP.pw i), ?_⟩
  refine h σ G H W _ fun x O1 G1 H1 k W1 e1 => ?_
  cases x with
  | true => exact k.1 rfl σ G1 H1 W1 Q fun x O2 G2 H2 k W2 e2 => q x O2 G2 H2 k W2 (e1.trans e2)
  | false => exact q false O1 G1 H1 (k.2 rfl) W1 e1
theorem dp_or {Φ : Bool → List Own → Prop} (h : DT F K B Γ O a fun x O1 => (x = false → DP F K B Γ O1 (.BoolOp .Or (b :: es) pos) Φ) ∧ (x = true → Φ true O1)) : DP F K B Γ O (.BoolOp .Or (a :: b :: es) pos) Φ := by
  intro σ G H W Q q
  refine ⟨_, fun i => pw_or (WT.pt i) (WP.pw i), ?_⟩
  refine h σ G H W _ fun x O1 G1 H1 k W1 e1 => ?_
  cases x with
  | false => exact k.1 rfl σ G1 H1 W1 Q fun x O2 G2 H2 k W2 e2 => q x O2 G2 H2 k W2 (e1.trans e2)
  | true => exact q true O1 G1 H1 (k.2 rfl) W1 e1
theorem dp_and1 {Φ : Bool → List Own → Prop} (h : DT F K B Γ O a Φ) : DP F K B Γ O (.BoolOp .And [a] pos) Φ := fun σ G H W Q q => ⟨_, fun i => pw_and1 (WT.pt i), h σ G H W Q q⟩
theorem dp_or1 {Φ : Bool → List Own → Prop} (h : DT F K B Γ O a Φ) : DP F K B Γ O (.BoolOp .Or [a] pos) Φ := fun σ G H W Q q => ⟨_, fun i => pw_or1 (WT.pt i), h σ G H W Q q⟩
/-- as values, all True or False -/
theorem d_and {Φ : Bool → List Own → Prop} (h : DW F K B Γ O a rBool fun x O1 => (x = true → DW F K B Γ O1 (.BoolOp .And (b :: es) pos) rBool Φ) ∧ (x = false → Φ false O1)) : DW F K B Γ O (.BoolOp .And (a :: b :: es) pos) rBool Φ := by
  intro σ G H W Q q
  refine ⟨_, fun i => pe_and (WE.pe i) (WE.pe i), ?_⟩
  refine h σ G H W _ fun x O1 v G1 H1 k W1 e1 r1 => ⟨x, r1, ?_⟩
  cases x with
  | true => exact k.1 rfl σ G1 H1 W1 Q fun x O2 v G2 H2 k W2 e2 r2 => q x O2 v G2 H2 k W2 (e1.trans e2) r2
  | false => exact q false O1 _ G1 H1 (k.2 rfl) W1 e1 rfl
theorem d_or {Φ : Bool → List Own → Prop} (h : DW F K B Γ O a rBool fun x O1 => (x = false → DW F K B Γ O1 (.BoolOp .Or (b :: es) pos) rBool Φ) ∧ (x = true → Φ true O1)) : DW F K B Γ O (.BoolOp .Or (a :: b :: es) pos) rBool Φ := by
  intro σ G H W Q q
  refine ⟨_, fun i => pe_or (WE.pe i) (WE.pe i), ?_⟩
  refine h σ G H W _ fun x O1 v G1 H1 k W1 e1 r1 => ⟨x, r1, ?_⟩
  cases x with
  | false => exact k.1 rfl σ G1 H1 W1 Q fun x O2 v G2 H2 k W2 e2 r2 => q x O2 v G2 H2 k W2 (e1.trans e2) r2
  | true => exact q true O1 _ G1 H1 (k.2 rfl) W1 e1 rfl
theorem d_one {op : BoolOp} {Φ : α → List Own → Prop} (h : DW F K B Γ O a ra Φ) : DW F K B Γ O (.BoolOp op [a] pos) ra Φ := fun σ G H W Q q => ⟨_, fun i => pe_one (WE.pe i), h σ G H W Q q⟩
theorem d_not {Φ : Bool → List Own → Prop} (h : DW F K B Γ O a rBool fun x O1 => Φ (!x) O1) : DW F K B Γ O (.UnaryOp .Not a pos) rBool Φ := by
  intro σ G H W Q q
  refine ⟨_, fun i => pe_not (WE.pe i), ?_⟩
  exact h σ G H W _ fun x O1 v G1 H1 k W1 e1 r1 => ⟨x, r1, q _ O1 _ G1 H1 k W1 e1 rfl⟩
theorem d_ite {Φ : α → List Own → Prop} (h : DT F K B Γ O c fun x O1 => (x = true → DW F K B Γ O1 a ra Φ) ∧ (x = false → DW F K B Γ O1 b ra Φ)) : DW F K B Γ O (.IfExp c a b pos) ra Φ := by
  intro σ G H W Q q
  refine ⟨_, fun i => pe_ifExp (WT.pt i) (WE.pe i) (WE.pe i), ?_⟩
  refine h σ G H W _ fun x O1 G1 H1 k W1 e1 => ?_
  cases x with
  | true => exact k.1 rfl σ G1 H1 W1 Q fun x O2 v G2 H2 k W2 e2 r2 => q x O2 v G2 H2 k W2 (e1.trans e2) r2
  | false => exact k.2 rfl σ G1 H1 W1 Q fun x O2 v G2 H2 k W2 e2 r2 => q x O2 v G2 H2 k W2 (e1.trans e2) r2

/-! argument lists, displays -/
theorem da_nil {Φ : Unit → List Own → Prop} (k : Φ () O) : DA F K B Γ O [] fNil Φ := fun σ G H W Q q => ⟨_, fun i => pa_nil, q () O [] G H k W (Ex.refl _) rfl⟩
theorem da_one {Φ : α → List Own → Prop} (h : DW F K B Γ O a ra Φ) (hs : ∀ i, starEach [a] (F i).env = (false, eval a (F i).env) :: starEach [] (F i).env := by intro _; rfl) : DA F K B Γ O [a] (fOne ra) Φ := by
  intro σ G H W Q q
  refine ⟨_, fun i => pa_cons (WE.pe i) pa_nil (hs i), ?_⟩
  exact h σ G H W _ fun x O1 v G1 H1 k W1 e1 r1 => q x O1 [v] G1 H1 k W1 e1 ⟨v, rfl, r1⟩
theorem da_cons {f : RpF β} {Φ : α × β → List Own → Prop} (h : DW F K B Γ O a ra fun x O1 => DA F K B Γ O1 es f fun y O2 => Φ (x, y) O2)
    (hs : ∀ i, starEach (a :: es) (F i).env = (false, eval a (F i).env) :: starEach es (F i).env := by intro _; rfl) : DA F K B Γ O (a :: es) (fCons ra f) Φ := by
  intro σ G H W Q q
  refine ⟨_, fun i => pa_cons (WE.pe i) (WA.pa i) (hs i), ?_⟩
  refine h σ G H W _ fun x O1 v G1 H1 k W1 e1 r1 => ?_
  exact k σ G1 H1 W1 _ fun y O2 vs G2 H2 k2 W2 e2 r2 => q (x, y) O2 (v :: vs) G2 H2 k2 W2 (e1.trans e2) ⟨v, vs, rfl, ra.mono e2 r1, r2⟩
/-- items that are alike -/
def fAll (r : Rp α) : RpF (List α) := ⟨fun K G vs xs => All2 (r.rep K G) vs xs, fun e h => h.mono fun _ _ z => r.mono e z⟩
theorem da_all {Φ : List α → List Own → Prop} (h : DW F K B Γ O a ra fun x O1 => DA F K B Γ O1 es (fAll ra) fun y O2 => Φ (x :: y) O2)
    (hs : ∀ i, starEach (a :: es) (F i).env = (false, eval a (F i).env) :: starEach es (F i).env := by intro _; rfl) : DA F K B Γ O (a :: es) (fAll ra) Φ := by
  intro σ G H W Q q
  refine ⟨_, fun i => pa_cons (WE.pe i) (WA.pa i) (hs i), ?_⟩
  refine h σ G H W _ fun x O1 v G1 H1 k W1 e1 r1 => ?_
  exact k σ G1 H1 W1 _ fun y O2 vs G2 H2 k2 W2 e2 r2 => q (x :: y) O2 (v :: vs) G2 H2 k2 W2 (e1.trans e2) ⟨ra.mono e2 r1, r2⟩
theorem da_all0 {Φ : List α → List Own → Prop} (k : Φ [] O) : DA F K B Γ O [] (fAll ra) Φ := fun σ G H W Q q => ⟨_, fun i => pa_nil, q [] O [] G H k W (Ex.refl _) trivial⟩
/-- its number of values is known -/
class Len {α : Type} (f : RpF α) (n : outParam Nat) : Prop where
  len : ∀ {K : Fg} {G : Hp} {vs : List V} {x : α}, f.rep K G vs x → vs.length = n
instance lenNil : Len fNil 0 := ⟨fun h => by rw [show _ = ([] : List V) from h]; rfl⟩
instance lenOne {r : Rp α} : Len (fOne r) 1 := ⟨fun ⟨v, h, _⟩ => by rw [h]; rfl⟩
instance lenCons {r : Rp α} {f : RpF β} {n : Nat} [h : Len f n] : Len (fCons r f) (n + 1) := ⟨fun ⟨v, ws, h1, _, h3⟩ => by rw [h1, List.length_cons, h.len h3]⟩
theorem d_tup {f : RpF α} {k : Nat} {m : Nat} [hl : Len f m] {Φ : α → List Own → Prop} (h : DA F K B Γ O es f Φ) (hm : m ≤ sizeLine := by decide) : DW F K B Γ O (.Tuple es k pos) (rTup f) Φ := by
  intro σ G H W Q q
  refine ⟨_, fun i => pe_tup (WA.pa i), ?_⟩
  refine h σ G H W _ fun x O1 vs G1 H1 k W1 e1 r1 => ⟨by rw [hl.len r1]; exact hm, fun p hp => ?_⟩
  have s : Stp B.T [] G1 H1 (upd G1 p (.tup vs)) (upd H1 p (.tup vs)) := Stp.new W1.sub hp
  exact q x O1 _ _ _ k (W1.step s) (e1.trans s.g) ⟨p, vs, rfl, SqT.of upd_same, f.mono s.g r1⟩
/-- a tuple whose items are alike -/
theorem d_tpv {k : Nat} {Φ : List α → List Own → Prop} (h : DA F K B Γ O es (fAll ra) fun x O1 => x.length ≤ sizeLine ∧ Φ x O1) : DW F K B Γ O (.Tuple es k pos) (rTpv ra) Φ := by
  intro σ G H W Q q
  refine ⟨_, fun i => pe_tup (WA.pa i), ?_⟩
  refine h σ G H W _ fun x O1 vs G1 H1 k W1 e1 r1 => ⟨by rw [All2.length r1]; exact k.1, fun p hp => ?_⟩
  have s : Stp B.T [] G1 H1 (upd G1 p (.tup vs)) (upd H1 p (.tup vs)) := Stp.new W1.sub hp
  exact q x O1 _ _ _ k.2 (W1.step s) (e1.trans s.g) ⟨p, vs, rfl, SqT.of upd_same, (fAll ra).mono s.g r1⟩
theorem d_lst {Φ : List α → List Own → Prop} (h : DA F K B Γ O es (fAll ra) fun x O1 => x.length ≤ sizeLine ∧ Φ x O1) : DW F K B Γ O (.List es pos) (rLst ra) Φ := by
  intro σ G H W Q q
  refine ⟨_, fun i => pe_lst (WA.pa i), ?_⟩
  refine h σ G H W _ fun x O1 vs G1 H1 k W1 e1 r1 => ⟨by rw [All2.length r1]; exact k.1, fun p hp => ?_⟩
  have s : Stp B.T [] G1 H1 (upd G1 p (.lst vs)) (upd H1 p (.lst vs)) := Stp.new W1.sub hp
  exact q x O1 _ _ _ k.2 (W1.step s) (e1.trans s.g) ⟨p, vs, rfl, upd_same, (fAll ra).mono s.g r1⟩
/-- a list of one's own -/
theorem d_lstO {Φ : Addr → List Own → Prop} (h : DA F K B Γ O es (fAll ra) fun x O1 => x.length ≤ sizeLine ∧ ∀ p, p ∉ B.M → Φ p (⟨p, oLst ra, x⟩ :: O1)) : DW F K B Γ O (.List es pos) rAdr Φ := by
  intro σ G H W Q q
  refine ⟨_, fun i => pe_lst (WA.pa i), ?_⟩
  refine h σ G H W _ fun x O1 vs G1 H1 k W1 e1 r1 => ⟨by rw [All2.length r1]; exact k.1, fun p hp => ?_⟩
  exact q p _ _ G1 _ (k.2 p (W1.notM hp)) (W1.newOwn hp (r := oLst ra) (x := x) ⟨vs, rfl, r1⟩) e1 rfl

/-! calls -/
/-- what a family of contexts shares -/
class Fam (F : ι → Cx) (P : outParam Program) (w : outParam World) (K : outParam Fg) (mg : outParam (Str → Option Value)) (base : outParam Heap) (k : outParam Nat) : Prop where
  pr : ∀ i, (F i).prog = P
  wd : ∀ i, (F i).w = w
  ka : ∀ i, (F i).K = K
  mg : ∀ i, (F i).mg = mg
  bs : ∀ i, (F i).base = base
  rm : ∀ i, Room k (F i).A
  cm : ∀ i, (F i).calm = true
  nd : ∀ i, (F i).N.Nodup
variable {P : Program} {w : World} {mg : Str → Option Value} {base : Heap} {k : Nat}
/-- a def of the module -/
structure Df (K : Fg) (mg : Str → Option Value) (n : Str) (st : Stmt) (ps : List Str) where
  f : Addr
  fd : FuncData
  F : Fun K n n st f fd
  m : mg n = some (.ref f)
  b : Binds K fd ps []
/-- a call of a def -/
theorem d_call [fam : Fam F P w K mg base k] {j : Nat} {st : Stmt} {ps : List Str} {sp : Sp} (D : Df K mg n st ps) (G : FnOk P w K mg base CX0 j D.f D.fd ps sp) {g : RpF α} {Φ : γ → List Own → Prop}
    (h : DA F K B Γ O (e :: es) g fun x O1 => SW K B Γ O1 sp [] g x rc Φ) (hj : j ≤ k := by decide) (hdb : (n == ("__debug__" : Str)) = false := by decide) (hg : ∀ i, Gl (F i) n := by intro _; rfl)
    (he : ∀ i, starEach (e :: es) (F i).env = (false, eval e (F i).env) :: starEach es (F i).env := by intro _; rfl) (hpl : ∀ i, (backTo pos (starEach es (F i).env)).any (·.1) = false := by intro _; rfl) :
    DW F K B Γ O (.Call (.Name n p) (e :: es) [] pos) rc Φ := by
  intro σ G' H W Q q
  refine ⟨tCall sp [] E0 (WA F (e :: es)), fun i => ?_, h σ G' H W _ fun x O1 vs G1 H1 k W1 e1 r1 => k σ G1 H1 vs W1 r1 Q fun z O' u G2 H2 k2 W2 e2 r2 => q z O' u G2 H2 k2 W2 (e1.trans e2) r2⟩
  have h1 := fam.pr i
  have h2 := fam.wd i
  have h3 := fam.ka i
  have h4 := fam.mg i
  have h5 := fam.bs i
  have G2 : FnOk (F i).prog (F i).w (F i).K (F i).mg (F i).base CX0 j D.f D.fd ps sp := by rw [h1, h2, h3, h4, h5]; exact G
  have m2 : (F i).mg n = some (.ref D.f) := by rw [h4]; exact D.m
  have k2 : PySem.W.keepIn (F i).K (.ref D.f) = true := by rw [h3]; exact D.F.kp
  have b2 : Binds (F i).K D.fd ps [] := by rw [h3]; exact D.b
  exact pe_call G2 ((fam.rm i).mono hj) (hg i) m2 k2 b2 .nil pass0 (WA.pa i) (hdb := hdb) (he := he i) (hpl := hpl i)
/-- a call of a built-in function, of a built-in type -/
theorem d_callB [fam : Fam F P w K mg base k] {id : String} {g : RpF α} {Φ : γ → List Own → Prop} (hm : mg n = none) (hv : bootBuiltins n = some (.builtin id)) (h : DA F K B Γ O (e :: es) g fun x O1 => CW F K B Γ O1 (.builtin id) g x rc Φ)
    (hg : ∀ i, Gl (F i) n := by intro _; rfl) (hn : n ≠ "__name__" := by decide) (hdb : (n == ("__debug__" : Str)) = false := by decide)
    (he : ∀ i, starEach (e :: es) (F i).env = (false, eval e (F i).env) :: starEach es (F i).env := by intro _; rfl) (hpl : ∀ i, (backTo pos (starEach es (F i).env)).any (·.1) = false := by intro _; rfl) :
    DW F K B Γ O (.Call (.Name n p) (e :: es) [] pos) rc Φ := by
  intro σ G H W Q q
  refine ⟨_, fun i => pe_callB (wCl.cl i) (hg i) (by rw [fam.mg i]; exact hm) hv (WA.pa i) hn hdb (he i) (hpl i), ?_⟩
  refine h σ G H W _ fun x O1 vs G1 H1 k W1 e1 r1 => ?_
  exact k σ G1 H1 vs W1 r1 Q fun z O' u G2 H2 k2 W2 e2 r2 => q z O' u G2 H2 k2 W2 (e1.trans e2) r2
theorem d_callT [fam : Fam F P w K mg base k] {T : String} {g : RpF α} {Φ : γ → List Own → Prop} (hm : mg n = none) (hv : bootBuiltins n = some (.type T)) (h : DA F K B Γ O (e :: es) g fun x O1 => CW F K B Γ O1 (.type T) g x rc Φ)
    (hg : ∀ i, Gl (F i) n := by intro _; rfl) (hn : n ≠ "__name__" := by decide) (hdb : (n == ("__debug__" : Str)) = false := by decide)
    (he : ∀ i, starEach (e :: es) (F i).env = (false, eval e (F i).env) :: starEach es (F i).env := by intro _; rfl) (hpl : ∀ i, (backTo pos (starEach es (F i).env)).any (·.1) = false := by intro _; rfl) :
    DW F K B Γ O (.Call (.Name n p) (e :: es) [] pos) rc Φ := by
  intro σ G H W Q q
  refine ⟨_, fun i => pe_callTy (wCl.cl i) (hg i) (by rw [fam.mg i]; exact hm) hv (WA.pa i) hn hdb (he i) (hpl i), ?_⟩
  refine h σ G H W _ fun x O1 vs G1 H1 k W1 e1 r1 => ?_
  exact k σ G1 H1 vs W1 r1 Q fun z O' u G2 H2 k2 W2 e2 r2 => q z O' u G2 H2 k2 W2 (e1.trans e2) r2
/-- a module's constant; a built-in class as a value -/
theorem d_glob [fam : Fam F P w K mg base k] {v : V} {u : Value} {x : α} {Φ : α → List Own → Prop} (hm : mg n = some u) (r : RelV v u) (hx : ∀ G, ra.rep K G v x) (k : Φ x O) (hg : ∀ j, Gl (F j) n := by intro _; rfl) (hd : (n == ("__debug__" : Str)) = false := by decide) :
    DW F K B Γ O (.Name n pos) ra Φ := d_globF (fun j => by rw [fam.mg j]; exact hm) r hx k hg hd
theorem d_cls [fam : Fam F P w K mg base k] {T : String} {Φ : String → List Own → Prop} (hm : mg n = none) (hv : bootBuiltins n = some (.type T)) (k : Φ T O) (hg : ∀ j, Gl (F j) n := by intro _; rfl)
    (hn : n ≠ "__name__" := by decide) (hd : (n == ("__debug__" : Str)) = false := by decide) : DW F K B Γ O (.Name n pos) rTy Φ := d_bltnF (v := .ty T) (fun j => by rw [fam.mg j]; exact hm) hv rfl (fun _ => rfl) k hg hn hd
/-- a[b] -/
theorem d_ix {Φ : γ → List Own → Prop} (h : DW F K B Γ O a ra fun x O1 => DW F K B Γ O1 b rb fun y O2 => IW F K B Γ O2 ra rb x y rc Φ) (hs : PlainIx b := by intro _ _; rfl) : DW F K B Γ O (.Subscript a b pos) rc Φ := by
  intro σ G H W Q q
  refine ⟨_, fun i => pe_ix (wIx.ix i) (WE.pe i) (WE.pe i) hs, ?_⟩
  refine h σ G H W _ fun x O1 v G1 H1 h1 W1 e1 r1 => ?_
  refine h1 σ G1 H1 W1 _ fun y O2 w G2 H2 h2 W2 e2 r2 => ?_
  exact h2 σ G2 H2 v w W2 (ra.mono e2 r1) r2 Q fun z O' u G' H' k W' e' r' => q z O' u G' H' k W' ((e1.trans e2).trans e') r'
end
end Sk


set_option Elab.async false
set_option linter.all false
set_option maxRecDepth 100000
set_option maxHeartbeats 4100000
/-! Sk3: operators on typed data, statements, loops, comprehensions, promises of defs. -/
namespace Sk
open PySem L2 Evl

/-! ### bounds of rgI, by their bits -/
class Bd (k : outParam Nat) (x : Int) : Prop where
  lt : x.natAbs < 2 ^ k
theorem two_le {a b : Nat} (h : a ≤ b) : 2 ^ a ≤ 2 ^ b := Nat.pow_le_pow_right (by decide) h
theorem bdAdd {a b : Nat} {x y : Int} (h1 : Bd a x) (h2 : Bd b y) : Bd (max a b + 1) (x + y) := ⟨by
  have p := two_le (Nat.le_max_left a b)
  have q := two_le (Nat.le_max_right a b)
  have r1 := h1.lt
  have r2 := h2.lt
  rw [Nat.pow_succ]
  omega⟩
theorem bdSub {a b : Nat} {x y : Int} (h1 : Bd a x) (h2 : Bd b y) : Bd (max a b + 1) (x - y) := ⟨by
  have p := two_le (Nat.le_max_left a b)
  have q := two_le (Nat.le_max_right a b)
  have r1 := h1.lt
  have r2 := h2.lt
  rw [Nat.pow_succ]
  omega⟩
instance (priority := low) {a b : Nat} {x y : Int} [h1 : Bd a x] [h2 : Bd b y] : Bd (max a b + 1) (x + y) := bdAdd h1 h2
instance (priority := low) {a b : Nat} {x y : Int} [h1 : Bd a x] [h2 : Bd b y] : Bd (max a b + 1) (x - y) := bdSub h1 h2
instance (priority := low) {a : Nat} {x : Int} [h1 : Bd a x] : Bd a (-x) := ⟨by rw [Int.natAbs_neg]; exact h1.lt⟩
instance (priority := low) {a b : Nat} {x y : Int} [h1 : Bd a x] [h2 : Bd b y] : Bd (a + b) (x * y) := ⟨wide_lt h1.lt h2.lt⟩
instance (priority := low) {a b : Nat} {x y : Int} {c : Prop} [Decidable c] [h1 : Bd a x] [h2 : Bd b y] : Bd (max a b) (if c then x else y) := ⟨by
  split
  · exact Nat.lt_of_lt_of_le h1.lt (two_le (Nat.le_max_left a b))
  · exact Nat.lt_of_lt_of_le h2.lt (two_le (Nat.le_max_right a b))⟩
instance (priority := low) {n : Nat} : Bd (Nat.log2 n + 1) (no_index (OfNat.ofNat n) : Int) := ⟨by
  have h : ((OfNat.ofNat n : Int)).natAbs = n := by rfl
  rw [h]
  exact Nat.lt_log2_self⟩
theorem Bd.of {k : Nat} {x : Int} (h1 : -(2 ^ k) < x) (h2 : x < 2 ^ k) : Bd k x := ⟨by
  have e : ((2 ^ k : Nat) : Int) = (2 : Int) ^ k := by simp
  have h3 : -((2 ^ k : Nat) : Int) < x := by rw [e]; exact h1
  have h4 : x < ((2 ^ k : Nat) : Int) := by rw [e]; exact h2
  omega⟩
theorem Bd.mono {j k : Nat} {x : Int} (h : Bd j x) (hk : j ≤ k) : Bd k x := ⟨Nat.lt_of_lt_of_le h.lt (two_le hk)⟩
theorem log2_le {k : Nat} {x : Int} (h : Bd k x) : x.natAbs.log2 ≤ k := by
  by_cases h0 : k = 0
  · subst h0
    have := h.lt
    have e : x.natAbs = 0 := by omega
    rw [e]
    decide
  · exact Nat.le_of_lt (PySem.Flt.log2_lt_of (by omega) h.lt)
theorem mulOk {a b : Nat} {x y : Int} [h1 : Bd a x] [h2 : Bd b y] (h : a + b ≤ 900000 := by decide) : CMulW x y := by
  have p := log2_le h1
  have q := log2_le h2
  unfold CMulW
  omega
theorem divOk {b : Nat} {x y : Int} [h2 : Bd b y] (hy : 0 < y) (h : b ≤ 8999 := by decide) : CDivW x y := ⟨hy, by
  have q := log2_le h2
  omega⟩

/-! ### operators -/
section
variable {ι : Type} {F : ι → Cx} {K : Fg} {B : Bs} {Γ : Gm} {O : List Own} {α β γ : Type} {ra : Rp α} {rb : Rp β} {rc : Rp γ}
section
variable {x y : Int} {Φ : Int → List Own → Prop} {Ψ : Bool → List Own → Prop}
theorem o_add (k : Φ (x + y) O) : OW F K B Γ O (binaryOp .Add) rInt rInt x y rInt Φ := fun σ G H v w W rv rw Q q => ⟨_, fun _ => op_add, x, y, rv, rw, q _ O _ G H k W (Ex.refl _) rfl⟩
theorem o_sub (k : Φ (x - y) O) : OW F K B Γ O (binaryOp .Sub) rInt rInt x y rInt Φ := fun σ G H v w W rv rw Q q => ⟨_, fun _ => op_sub, x, y, rv, rw, q _ O _ G H k W (Ex.refl _) rfl⟩
theorem o_mul (h : CMulW x y) (k : Φ (x * y) O) : OW F K B Γ O (binaryOp .Mult) rInt rInt x y rInt Φ := fun σ G H v w W rv rw Q q => ⟨_, fun _ => op_mulW, x, y, rv, rw, h, q _ O _ G H k W (Ex.refl _) rfl⟩
theorem o_div (h : CDivW x y) (k : Φ (x / y) O) : OW F K B Γ O (binaryOp .FloorDiv) rInt rInt x y rInt Φ := fun σ G H v w W rv rw Q q => ⟨_, fun _ => op_fdivW, x, y, rv, rw, h, q _ O _ G H k W (Ex.refl _) rfl⟩
theorem o_mod (h : 0 < y) (k : Φ (x % y) O) : OW F K B Γ O (binaryOp .Mod) rInt rInt x y rInt Φ := fun σ G H v w W rv rw Q q => ⟨_, fun _ => op_mod, x, y, rv, rw, h, q _ O _ G H k W (Ex.refl _) rfl⟩
theorem o_pow (h : 0 ≤ y ∧ y ≤ 1000000 ∧ x.natAbs < 2 ^ 64) (k : Φ (x ^ y.toNat) O) : OW F K B Γ O (binaryOp .Pow) rInt rInt x y rInt Φ := fun σ G H v w W rv rw Q q => ⟨_, fun _ => op_pow, x, y, rv, rw, h, q _ O _ G H k W (Ex.refl _) rfl⟩
theorem o_shr (h : 0 ≤ y) (k : Φ (x / 2 ^ y.toNat) O) : OW F K B Γ O (binaryOp .RShift) rInt rInt x y rInt Φ := fun σ G H v w W rv rw Q q => ⟨_, fun _ => op_shr, x, y, rv, rw, h, q _ O _ G H k W (Ex.refl _) rfl⟩
theorem o_xor (k : Φ (Builtin.bitXor x y) O) : OW F K B Γ O (binaryOp .BitXor) rInt rInt x y rInt Φ := fun σ G H v w W rv rw Q q => ⟨_, fun _ => op_xor, x, y, rv, rw, q _ O _ G H k W (Ex.refl _) rfl⟩
theorem o_and (k : Φ (Builtin.bitAnd x y) O) : OW F K B Γ O (binaryOp .BitAnd) rInt rInt x y rInt Φ := fun σ G H v w W rv rw Q q => ⟨_, fun _ => op_and, x, y, rv, rw, q _ O _ G H k W (Ex.refl _) rfl⟩
theorem o_lt (k : Ψ (decide (x < y)) O) : OW F K B Γ O (compareOp .Lt) rInt rInt x y rBool Ψ := fun σ G H v w W rv rw Q q => ⟨_, fun _ => op_lt, x, y, rv, rw, q _ O _ G H k W (Ex.refl _) rfl⟩
theorem o_le (k : Ψ (decide (x ≤ y)) O) : OW F K B Γ O (compareOp .LtE) rInt rInt x y rBool Ψ := fun σ G H v w W rv rw Q q => ⟨_, fun _ => op_le, x, y, rv, rw, q _ O _ G H k W (Ex.refl _) rfl⟩
theorem o_gt (k : Ψ (decide (y < x)) O) : OW F K B Γ O (compareOp .Gt) rInt rInt x y rBool Ψ := fun σ G H v w W rv rw Q q => ⟨_, fun _ => op_gt, x, y, rv, rw, q _ O _ G H k W (Ex.refl _) rfl⟩
theorem o_ge (k : Ψ (decide (y ≤ x)) O) : OW F K B Γ O (compareOp .GtE) rInt rInt x y rBool Ψ := fun σ G H v w W rv rw Q q => ⟨_, fun _ => op_ge, x, y, rv, rw, q _ O _ G H k W (Ex.refl _) rfl⟩
theorem o_eqI (k : Ψ (decide (x = y)) O) : OW F K B Γ O (compareOp .Eq) rInt rInt x y rBool Ψ := fun σ G H v w W rv rw Q q => ⟨_, fun _ => op_eq, by
  rw [show v = V.int x from rv, show w = V.int y from rw]
  refine ⟨rfl, q _ O _ G H k W (Ex.refl _) ?_⟩
  show V.bl (decide (V.int x = V.int y)) = V.bl (decide (x = y))
  simp⟩
theorem o_neI (k : Ψ (!decide (x = y)) O) : OW F K B Γ O (compareOp .NotEq) rInt rInt x y rBool Ψ := fun σ G H v w W rv rw Q q => ⟨_, fun _ => op_ne, by
  rw [show v = V.int x from rv, show w = V.int y from rw]
  refine ⟨rfl, q _ O _ G H k W (Ex.refl _) ?_⟩
  show V.bl (!decide (V.int x = V.int y)) = V.bl (!decide (x = y))
  simp⟩
theorem u_neg (k : Φ (-x) O) : UW F K B Γ O (unaryOp .USub) rInt x rInt Φ := fun σ G H v W rv Q q => ⟨_, fun _ => un_neg, x, rv, q _ O _ G H k W (Ex.refl _) rfl⟩
end
theorem o_eqB {x y : Bool} {Ψ : Bool → List Own → Prop} (k : Ψ (decide (x = y)) O) : OW F K B Γ O (compareOp .Eq) rBool rBool x y rBool Ψ := fun σ G H v w W rv rw Q q => ⟨_, fun _ => op_eq, by
  rw [show v = V.bl x from rv, show w = V.bl y from rw]
  refine ⟨rfl, q _ O _ G H k W (Ex.refl _) ?_⟩
  show V.bl (decide (V.bl x = V.bl y)) = V.bl (decide (x = y))
  simp⟩
theorem o_neB {x y : Bool} {Ψ : Bool → List Own → Prop} (k : Ψ (!decide (x = y)) O) : OW F K B Γ O (compareOp .NotEq) rBool rBool x y rBool Ψ := fun σ G H v w W rv rw Q q => ⟨_, fun _ => op_ne, by
  rw [show v = V.bl x from rv, show w = V.bl y from rw]
  refine ⟨rfl, q _ O _ G H k W (Ex.refl _) ?_⟩
  show V.bl (!decide (V.bl x = V.bl y)) = V.bl (!decide (x = y))
  simp⟩
theorem o_eqS {x y : Str} {Ψ : Bool → List Own → Prop} (k : Ψ (decide (x = y)) O) : OW F K B Γ O (compareOp .Eq) rStr rStr x y rBool Ψ := fun σ G H v w W rv rw Q q => ⟨_, fun _ => op_eq, by
  rw [show v = V.str x from rv, show w = V.str y from rw]
  refine ⟨rfl, q _ O _ G H k W (Ex.refl _) ?_⟩
  show V.bl (decide (V.str x = V.str y)) = V.bl (decide (x = y))
  simp⟩
theorem o_neS {x y : Str} {Ψ : Bool → List Own → Prop} (k : Ψ (!decide (x = y)) O) : OW F K B Γ O (compareOp .NotEq) rStr rStr x y rBool Ψ := fun σ G H v w W rv rw Q q => ⟨_, fun _ => op_ne, by
  rw [show v = V.str x from rv, show w = V.str y from rw]
  refine ⟨rfl, q _ O _ G H k W (Ex.refl _) ?_⟩
  show V.bl (!decide (V.str x = V.str y)) = V.bl (!decide (x = y))
  simp⟩
theorem dec_none {α : Type} {r : Rp α} {K : Fg} {G : Hp} {v : V} {x : Option α} (h : (rOpt r).rep K G v x) : decide (v = V.non) = x.isNone := by
  cases x with
  | none =>
    rw [show v = V.non from h]
    rfl
  | some y =>
    rw [decide_eq_false h.1]
    rfl
theorem o_isN {x : Option α} {u : Unit} {Ψ : Bool → List Own → Prop} (k : Ψ x.isNone O) : OW F K B Γ O (compareOp .Is) (rOpt ra) rNon x u rBool Ψ := fun σ G H v w W rv rw Q q => ⟨_, fun _ => op_isN, rw, q _ O _ G H k W (Ex.refl _) (by
  show V.bl (decide (v = V.non)) = V.bl x.isNone
  rw [dec_none rv])⟩
theorem o_notN {x : Option α} {u : Unit} {Ψ : Bool → List Own → Prop} (k : Ψ (!x.isNone) O) : OW F K B Γ O (compareOp .IsNot) (rOpt ra) rNon x u rBool Ψ := fun σ G H v w W rv rw Q q => ⟨_, fun _ => op_notN, rw, q _ O _ G H k W (Ex.refl _) (by
  show V.bl (!decide (v = V.non)) = V.bl (!x.isNone)
  rw [dec_none rv])⟩

/-! ### items -/
theorem atI_ok {n : Nat} {i : Int} (h0 : 0 ≤ i) (h1 : i < n) : ixN n i = some i.toNat := by
  unfold ixN
  rw [if_pos h0, if_pos h1]
theorem i_lst {xs : List α} {i : Int} {x : α} {Φ : α → List Own → Prop} (h : atI xs i = some x) (k : Φ x O) (hK : ∀ j, (F j).K = K := by intro _; rfl) : IW F K B Γ O (rLst ra) rInt xs i ra Φ := by
  intro σ G H v w W rv rw Q q
  obtain ⟨a, vs, h1, h2, h3⟩ := rv
  unfold atI at h
  obtain ⟨j, h4, h5⟩ := Option.bind_eq_some_iff.mp h
  obtain ⟨u, h6, h7⟩ := h3.get' h5
  refine ⟨rIxL K, fun j => by rw [← hK j]; exact ix_list, a, vs, i, u, h1, rw, SqL.of (W.sub _ _ h2), ?_, q x O u G H k W (Ex.refl _) h7⟩
  unfold atI
  rw [h3.length, h4]
  exact h6
theorem i_seq {xs : List α} {i : Int} {x : α} {Φ : α → List Own → Prop} (h : atI xs i = some x) (k : Φ x O) (hK : ∀ j, (F j).K = K := by intro _; rfl) : IW F K B Γ O (rSeq ra) rInt xs i ra Φ := by
  intro σ G H v w W rv rw Q q
  obtain ⟨a, vs, h1, h2, h3⟩ := rv
  unfold atI at h
  obtain ⟨j, h4, h5⟩ := Option.bind_eq_some_iff.mp h
  obtain ⟨u, h6, h7⟩ := h3.get' h5
  refine ⟨rIxL K, fun j => by rw [← hK j]; exact ix_list, a, vs, i, u, h1, rw, ex_l W.sub h2, ?_, q x O u G H k W (Ex.refl _) h7⟩
  unfold atI
  rw [h3.length, h4]
  exact h6
theorem i_tpv {xs : List α} {i : Int} {x : α} {Φ : α → List Own → Prop} (h : atI xs i = some x) (k : Φ x O) (hK : ∀ j, (F j).K = K := by intro _; rfl) : IW F K B Γ O (rTpv ra) rInt xs i ra Φ := by
  intro σ G H v w W rv rw Q q
  obtain ⟨a, vs, h1, h2, h3⟩ := rv
  unfold atI at h
  obtain ⟨j, h4, h5⟩ := Option.bind_eq_some_iff.mp h
  obtain ⟨u, h6, h7⟩ := h3.get' h5
  refine ⟨rIxT K, fun j => by rw [← hK j]; exact ix_tup, a, vs, i, u, h1, rw, ex_t W.sub h2, ?_, q x O u G H k W (Ex.refl _) h7⟩
  unfold atI
  rw [h3.length, h4]
  exact h6
/-- the i-th of unlike things -/
class FAt {α : Type} (f : RpF α) (i : Nat) {β : outParam Type} (r : outParam (Rp β)) (g : outParam (α → β)) : Prop where
  get : ∀ {K : Fg} {G : Hp} {vs : List V} {x : α}, f.rep K G vs x → ∃ v, vs[i]? = some v ∧ r.rep K G v (g x)
instance fat1 {r : Rp α} : FAt (fOne r) 0 r (fun x => x) := ⟨fun ⟨v, h, k⟩ => ⟨v, by rw [h]; rfl, k⟩⟩
instance fat0 {r : Rp α} {f : RpF β} : FAt (fCons r f) 0 r (fun x => x.1) := ⟨fun ⟨v, ws, h, k, _⟩ => ⟨v, by rw [h]; rfl, k⟩⟩
instance fatS {r : Rp α} {f : RpF β} {i : Nat} {r' : Rp γ} {g : β → γ} [h : FAt f i r' g] : FAt (fCons r f) (i + 1) r' (fun x => g x.2) := ⟨fun ⟨v, ws, e, _, k⟩ => let ⟨u, h1, h2⟩ := h.get k; ⟨u, by rw [e]; simpa using h1, h2⟩⟩
theorem i_tup {f : RpF α} {x : α} (i : Nat) {r : Rp β} {g : α → β} [hf : FAt f i r g] {Φ : β → List Own → Prop} (k : Φ (g x) O) (hK : ∀ j, (F j).K = K := by intro _; rfl) : IW F K B Γ O (rTup f) rInt x ((OfNat.ofNat i : Nat) : Int) r Φ := by
  intro σ G H v w W rv rw Q q
  obtain ⟨a, vs, h1, h2, h3⟩ := rv
  obtain ⟨u, h4, h5⟩ := hf.get h3
  exact ⟨rIxT K, fun j => by rw [← hK j]; exact ix_tup, a, vs, (i : Int), u, h1, rw, ex_t W.sub h2, atI_nat h4, q _ O u G H k W (Ex.refl _) h5⟩

/-! ### built-in functions -/
theorem c_abs {x : Int} {Φ : Int → List Own → Prop} (k : Φ (if x < 0 then -x else x) O) : CW F K B Γ O (.builtin "abs") (fOne rInt) x rInt Φ := fun σ G H vs W ⟨v, e, rv⟩ Q q => ⟨_, fun _ => call_abs, x, by rw [e, show v = V.int x from rv], q _ O _ G H k W (Ex.refl _) rfl⟩
theorem c_int {x : Int} {Φ : Int → List Own → Prop} (k : Φ x O) : CW F K B Γ O (.type "int") (fOne rInt) x rInt Φ := fun σ G H vs W ⟨v, e, rv⟩ Q q => ⟨_, fun _ => call_int1, .inl ⟨x, by rw [e, show v = V.int x from rv], q _ O _ G H k W (Ex.refl _) rfl⟩⟩
theorem c_intB {x : Bool} {Φ : Int → List Own → Prop} (k : Φ (if x then 1 else 0) O) : CW F K B Γ O (.type "int") (fOne rBool) x rInt Φ := fun σ G H vs W ⟨v, e, rv⟩ Q q => ⟨_, fun _ => call_int1, .inr ⟨x, by rw [e, show v = V.bl x from rv], q _ O _ G H k W (Ex.refl _) rfl⟩⟩
theorem c_max2 {x : Int × Int} {Φ : Int → List Own → Prop} (k : Φ (if x.2 > x.1 then x.2 else x.1) O) (hc : ∀ j, (F j).calm = true := by intro _; rfl) : CW F K B Γ O (.builtin "max") (fCons rInt (fOne rInt)) x rInt Φ :=
  fun σ G H vs W ⟨v, ws, e, rv, u, e2, ru⟩ Q q => ⟨_, fun j => call_max2 (hc j), x.1, x.2, by rw [e, e2, show v = V.int x.1 from rv, show u = V.int x.2 from ru], q _ O _ G H k W (Ex.refl _) rfl⟩
theorem c_min2 {x : Int × Int} {Φ : Int → List Own → Prop} (k : Φ (if x.2 < x.1 then x.2 else x.1) O) (hc : ∀ j, (F j).calm = true := by intro _; rfl) : CW F K B Γ O (.builtin "min") (fCons rInt (fOne rInt)) x rInt Φ :=
  fun σ G H vs W ⟨v, ws, e, rv, u, e2, ru⟩ Q q => ⟨_, fun j => call_min2 (hc j), x.1, x.2, by rw [e, e2, show v = V.int x.1 from rv, show u = V.int x.2 from ru], q _ O _ G H k W (Ex.refl _) rfl⟩
theorem c_lenL {xs : List α} {Φ : Int → List Own → Prop} (k : Φ (xs.length : Int) O) (hK : ∀ j, (F j).K = K := by intro _; rfl) : CW F K B Γ O (.builtin "len") (fOne (rLst ra)) xs rInt Φ :=
  fun σ G H vs W ⟨v, e, a, ws, h1, h2, h3⟩ Q q => ⟨fun xs H Q => ∃ p ys, xs = [.ref p] ∧ (SqL K H p ys ∨ SqT K H p ys) ∧ Q (.int ys.length) H, fun j => by rw [← hK j]; exact call_len_seq, a, ws, by rw [e, h1], .inl (SqL.of (W.sub _ _ h2)), q _ O _ G H k W (Ex.refl _) (by rw [h3.length]; rfl)⟩
theorem c_lenS {xs : List α} {Φ : Int → List Own → Prop} (k : Φ (xs.length : Int) O) (hK : ∀ j, (F j).K = K := by intro _; rfl) : CW F K B Γ O (.builtin "len") (fOne (rSeq ra)) xs rInt Φ :=
  fun σ G H vs W ⟨v, e, a, ws, h1, h2, h3⟩ Q q => ⟨fun xs H Q => ∃ p ys, xs = [.ref p] ∧ (SqL K H p ys ∨ SqT K H p ys) ∧ Q (.int ys.length) H, fun j => by rw [← hK j]; exact call_len_seq, a, ws, by rw [e, h1], .inl (ex_l W.sub h2), q _ O _ G H k W (Ex.refl _) (by rw [h3.length]; rfl)⟩
theorem c_lenT {xs : List α} {Φ : Int → List Own → Prop} (k : Φ (xs.length : Int) O) (hK : ∀ j, (F j).K = K := by intro _; rfl) : CW F K B Γ O (.builtin "len") (fOne (rTpv ra)) xs rInt Φ :=
  fun σ G H vs W ⟨v, e, a, ws, h1, h2, h3⟩ Q q => ⟨fun xs H Q => ∃ p ys, xs = [.ref p] ∧ (SqL K H p ys ∨ SqT K H p ys) ∧ Q (.int ys.length) H, fun j => by rw [← hK j]; exact call_len_seq, a, ws, by rw [e, h1], .inr (ex_t W.sub h2), q _ O _ G H k W (Ex.refl _) (by rw [h3.length]; rfl)⟩
/-- what isinstance asks of a thing: its built-in type -/
class Kind (r : Rp α) (t : outParam String) : Prop where
  ty : ∀ {K : Fg} {G H : Hp} {v : V} {x : α}, Ex G H → r.rep K G v x → TyX K H v (.type t)
instance : Kind rInt "int" := ⟨fun _ h => by rw [show _ = V.int _ from h]; exact .base (.int _)⟩
instance : Kind rBool "bool" := ⟨fun _ h => by rw [show _ = V.bl _ from h]; exact .base (.bl _)⟩
instance : Kind rStr "str" := ⟨fun _ h => by rw [show _ = V.str _ from h]; exact .base (.str _)⟩
instance {r : Rp α} : Kind (rLst r) "list" := ⟨fun e ⟨a, vs, h1, h2, _⟩ => by rw [h1]; exact .base (.lst (e _ _ h2))⟩
theorem tyx_tup {K : Fg} {H : Hp} {a : Addr} {vs : List V} (h : SqT K H a vs) : TyX K H (.ref a) (.type "tuple") := by
  rcases h with (h | ⟨o, h⟩) | ⟨o, its, n, h1, h2, _⟩
  · exact .base (.tup h)
  · exact .fTuple h
  · exact .kTuple h1 h2
instance {r : Rp α} : Kind (rTpv r) "tuple" := ⟨fun e ⟨a, vs, h1, h2, _⟩ => by rw [h1]; exact tyx_tup (ex_t e h2)⟩
instance {f : RpF α} : Kind (rTup f) "tuple" := ⟨fun e ⟨a, vs, h1, h2, _⟩ => by rw [h1]; exact tyx_tup (ex_t e h2)⟩
theorem c_isi {r : Rp α} {t : String} [hk : Kind r t] {x : α × String} {b : Bool} {Φ : Bool → List Own → Prop} (hb : PySem.W.kitOne K (.type t) (.type x.2) = some b) (k : Φ b O) (hK : ∀ j, (F j).K = K := by intro _; rfl) :
    CW F K B Γ O (.builtin "isinstance") (fCons r (fOne rTy)) x rBool Φ :=
  fun σ G H vs W ⟨v, ws, e, rv, u, e2, ru⟩ Q q => ⟨rIsi K, fun j => by rw [← hK j]; exact call_isi, v, .ty x.2, .type t, .type x.2, b, by rw [e, e2, show u = V.ty x.2 from ru], .ty _, hk.ty W.sub rv, hb, q b O _ G H k W (Ex.refl _) rfl⟩
end

/-- the env with the i-th slot set -/
class SetG (Γ : Gm) (i : Nat) (f : outParam (Option Slot → Gm)) : Prop where
  eq : ∀ s, f s = Γ.set i s
instance setG0 {Γ : Gm} {g : Option Slot} : SetG (g :: Γ) 0 (fun s => s :: Γ) := ⟨fun _ => rfl⟩
instance setGS {Γ : Gm} {g : Option Slot} {i : Nat} {f : Option Slot → Gm} [h : SetG Γ i f] : SetG (g :: Γ) (i + 1) (fun s => g :: f s) := ⟨fun s => by rw [h.eq]; rfl⟩
theorem wipe_at {σ : St} : ∀ {vs : List Nat} {j : Nat}, (wipe σ vs)[j]? = if j ∈ vs then (if j < σ.length then some none else none) else σ[j]?
  | [], j => by simp [wipe]
  | v :: vs, j => by
    unfold wipe
    by_cases h : v = j
    · subst h
      by_cases hl : v < σ.length
      · rw [List.getElem?_set_self (by rw [wipe_length]; exact hl)]
        simp [hl]
      · rw [List.getElem?_eq_none (by rw [List.length_set, wipe_length]; omega)]
        simp [hl]
    · rw [List.getElem?_set_ne h, wipe_at]
      have e : (j ∈ v :: vs) ↔ (j ∈ vs) := by
        rw [List.mem_cons]
        exact ⟨fun q => q.elim (fun z => (h z.symm).elim) id, Or.inr⟩
      by_cases hj : j ∈ vs
      · rw [if_pos hj, if_pos (e.mpr hj)]
      · rw [if_neg hj, if_neg fun z => hj (e.mp z)]
theorem wipe_set {σ : St} {i : Nat} {u : Option V} {vs : List Nat} (h : i ∈ vs) : wipe (σ.set i u) vs = wipe σ vs := by
  refine List.ext_getElem? fun (j : Nat) => ?_
  rw [wipe_at, wipe_at, List.length_set]
  by_cases hj : j ∈ vs
  · rw [if_pos hj, if_pos hj]
  · rw [if_neg hj, if_neg hj, List.getElem?_set_ne (show i ≠ j from fun z => hj (by rw [← z]; exact h))]
/-! ### statements -/
def DS (X : Cx) (K : Fg) (B : Bs) (Γ : Gm) (O : List Own) (sts : List Stmt) (D : Ends) : Prop := ∀ σ G H, Ws K B Γ O σ G H → WSs X sts D σ H
def RT (K : Fg) (B : Bs) (Γ : Gm) (O : List Own) {α : Type} (r : Rp α) (x : α) (D : Ends) : Prop := ∀ v σ G H, Ws K B Γ O σ G H → r.rep K G v x → D.rt v H
abbrev Us (X : Cx) : Unit → Cx := fun _ => X
section
variable {X : Cx} {K : Fg} {B : Bs} {Γ Γ' : Gm} {O O' : List Own} {α β : Type} {ra : Rp α} {D D0 : Ends} {e c : Expr} {rest sa sb : List Stmt} {n : Str} {pos p : Pos}
variable {P : Program} {w : World} {mg : Str → Option Value} {base : Heap} {k : Nat}
theorem s_wk (h : Wk Γ Γ') (q : DS X K B Γ' O rest D) : DS X K B Γ O rest D := fun σ G H W => q σ G H (W.wk h)
/-- the own objects in another order, some dropped -/
theorem s_own (q : DS X K B Γ O' rest D) (hs : ∀ w ∈ O', w ∈ O) (hn : (O.map (·.a)).Nodup → (O'.map (·.a)).Nodup) : DS X K B Γ O rest D := fun σ G H W => q σ G H (W.perm hs hn)
theorem s_nil (h : ∀ σ G H, Ws K B Γ O σ G H → D.nx σ H) : DS X K B Γ O [] D := fun σ G H W => WSs.nil (h σ G H W)
/-- out of a branch -/
theorem s_out (h : DS X K B Γ O rest D0) : DS X K B Γ O [] { D0 with nx := WSs X rest D0 } := fun σ G H W => WSs.nil (h σ G H W)
theorem s_set [fam : Fam (Us X) P w K mg base k] (i : Nat) {f : Option Slot → Gm} [hg : SetG Γ i f] (h : DW (Us X) K B Γ O e ra fun x O' => DS X K B (f (some ⟨ra, x⟩)) O' rest D) (hi : X.N[i]? = some n := by rfl)
    (hx : Loc X.env.scope n := by first | exact Or.inl rfl | exact Or.inr rfl) (hs : swapsWith e (some (.Name n p)) pos.line X.env = pure false := by rfl) (hf : X.fn n = true ∨ X.env.scope.names.lookup n = some .local := by first | exact .inr rfl | exact .inl rfl) :
    DS X K B Γ O (.Assign [.Name n p] e pos :: rest) D := by
  intro σ G H W
  refine WSs.cons (ps_set (te := WE (Us X) e) (fam.nd ()) hi hx (WE.pe (F := Us X) ()) hs hf) ?_
  exact h σ G H W _ fun x O' v G' H' k W' _ r => k _ G' H' (by rw [hg.eq]; exact W'.set i r)
theorem s_if (h : DT (Us X) K B Γ O c fun b O' => (b = true → DS X K B Γ O' sa { D with nx := WSs X rest D }) ∧ (b = false → DS X K B Γ O' sb { D with nx := WSs X rest D })) : DS X K B Γ O (.If c sa sb pos :: rest) D := by
  intro σ G H W
  refine WSs.cons (ps_if (tc := WT (Us X) c) (WT.pt (F := Us X) ()) WSs.pss WSs.pss) ?_
  refine h σ G H W _ fun b O' G' H' k W' _ => ?_
  cases b with
  | true => exact k.1 rfl σ G' H' W'
  | false => exact k.2 rfl σ G' H' W'
theorem s_ret (h : DW (Us X) K B Γ O e ra fun x O' => RT K B Γ O' ra x D) : DS X K B Γ O (.Return (some e) pos :: rest) D := by
  intro σ G H W
  refine WSs.cons (ps_ret (te := WE (Us X) e) (WE.pe (F := Us X) ())) ?_
  exact h σ G H W _ fun x O' v G' H' k W' _ r => k v σ G' H' W' r
theorem s_retN (h : RT K B Γ O rNon () D) : DS X K B Γ O (.Return none pos :: rest) D := fun σ G H W => WSs.cons ps_retN (h _ σ G H W rfl)
theorem s_expr (h : DW (Us X) K B Γ O e ra fun _ O' => DS X K B Γ O' rest D) (hs : swapsWith e none pos.line X.env = pure false := by rfl) : DS X K B Γ O (.Expr e pos :: rest) D := by
  intro σ G H W
  refine WSs.cons (ps_expr (te := WE (Us X) e) (WE.pe (F := Us X) ()) hs) ?_
  exact h σ G H W _ fun x O' v G' H' k W' _ r => k _ G' H' W'
theorem s_pass (h : DS X K B Γ O rest D) : DS X K B Γ O (.Pass pos :: rest) D := fun σ G H W => WSs.cons ps_pass (h σ G H W)
theorem s_brk (h : ∀ σ G H, Ws K B Γ O σ G H → D.bk σ H) : DS X K B Γ O (.Break pos :: rest) D := fun σ G H W => WSs.cons ps_break (h σ G H W)
theorem s_cont (h : ∀ σ G H, Ws K B Γ O σ G H → D.ct σ H) : DS X K B Γ O (.Continue pos :: rest) D := fun σ G H W => WSs.cons ps_continue (h σ G H W)

/-! targets -/
def DG {ι : Type} (F : ι → Cx) (K : Fg) (B : Bs) (Γ : Gm) (O : List Own) (e : Expr) {α : Type} (r : Rp α) (x : α) (js : List Nat) (Φ : Gm → Prop) : Prop :=
  ∀ σ G H v, Ws K B Γ O σ G H → r.rep K G v x → ∀ Q : St → Hp → Prop, (∀ Γ' σ', Φ Γ' → Ws K B Γ' O σ' G H → (∀ vs : List Nat, (∀ j ∈ js, j ∈ vs) → wipe σ' vs = wipe σ vs) → Q σ' H) → WG F e v σ H Q
def DGs {ι : Type} (F : ι → Cx) (K : Fg) (B : Bs) (Γ : Gm) (O : List Own) (es : List Expr) {α : Type} (f : RpF α) (x : α) (js : List Nat) (Φ : Gm → Prop) : Prop :=
  ∀ σ G H vs, Ws K B Γ O σ G H → f.rep K G vs x → ∀ Q : St → Hp → Prop, (∀ Γ' σ', Φ Γ' → Ws K B Γ' O σ' G H → (∀ vs : List Nat, (∀ j ∈ js, j ∈ vs) → wipe σ' vs = wipe σ vs) → Q σ' H) → WGs F es vs σ H Q
section
variable {ι : Type} {F : ι → Cx}
theorem g_name [fam : Fam F P w K mg base k] (i : Nat) {f : Option Slot → Gm} [hg : SetG Γ i f] {x : α} {Φ : Gm → Prop} (q : Φ (f (some ⟨ra, x⟩))) (hi : ∀ j, (F j).N[i]? = some n := by intro _; rfl)
    (hx : ∀ j, Loc (F j).env.scope n := by intro _; first | exact Or.inl rfl | exact Or.inr rfl)
    (hf : ∀ j, (F j).fn n = true ∨ (F j).env.scope.names.lookup n = some .local := by intro _; first | exact .inr rfl | exact .inl rfl) : DG F K B Γ O (.Name n pos) ra x [i] Φ :=
  fun σ G H v W r Q k => ⟨_, fun j => pg_name (fam.nd j) (hi j) (hx j) (hf j), k _ _ q (by rw [hg.eq]; exact W.set i r) fun vs hv => wipe_set (hv i (by simp))⟩
theorem gs_one {js : List Nat} {x : α} {Φ : Gm → Prop} (h : DG F K B Γ O e ra x js Φ) (hs : ∀ j, (assignEach [e] (F j).env).map (·.2) = assign e (F j).env :: (assignEach [] (F j).env).map (·.2) := by intro _; rfl) : DGs F K B Γ O [e] (fOne ra) x js Φ := by
  intro σ G H vs W ⟨v, e1, r⟩ Q k
  exact ⟨_, fun j => pgs_cons (WG.pg j) pgs_nil (hs j), v, [], e1, h σ G H v W r _ fun Γ' σ' q W' hw => ⟨rfl, k Γ' σ' q W' hw⟩⟩
theorem gs_cons {js ks : List Nat} {es : List Expr} {f : RpF β} {x : α × β} {Φ : Gm → Prop} (h : DG F K B Γ O e ra x.1 js fun Γ1 => DGs F K B Γ1 O es f x.2 ks Φ)
    (hs : ∀ j, (assignEach (e :: es) (F j).env).map (·.2) = assign e (F j).env :: (assignEach es (F j).env).map (·.2) := by intro _; rfl) : DGs F K B Γ O (e :: es) (fCons ra f) x (js ++ ks) Φ := by
  intro σ G H vs W ⟨v, ws, e1, r, rf⟩ Q k
  exact ⟨_, fun j => pgs_cons (WG.pg j) (WGs.pgs j) (hs j), v, ws, e1, h σ G H v W r _ fun Γ' σ' q W' hw => q σ' G H ws W' rf Q fun Γ2 σ2 q2 W2 hw2 => k Γ2 σ2 q2 W2 fun vs hv =>
    (hw2 vs fun j hj => hv j (List.mem_append_right _ hj)).trans (hw vs fun j hj => hv j (List.mem_append_left _ hj))⟩
theorem g_tup [fam : Fam F P w K mg base k] {js : List Nat} {es : List Expr} {f : RpF α} {j m : Nat} [hl : Len f m] {x : α} {Φ : Gm → Prop} (h : DGs F K B Γ O es f x js Φ)
    (hn : ∀ j, (assignEach es (F j).env).length = m := by intro _; rfl) (hst : ∀ j, (assignEach es (F j).env).findIdx? (·.1) = none := by intro _; rfl) : DG F K B Γ O (.Tuple es j pos) (rTup f) x js Φ := by
  intro σ G H v W ⟨a, vs, e1, h1, h2⟩ Q q
  refine ⟨gTup K m (WGs F es), fun i => ?_, a, vs, e1, ex_t W.sub h1, hl.len h2, h σ G H vs W h2 Q q⟩
  have p := pg_tup (X := F i) (pos := pos) (k := j) (fam.cm i) (WGs.pgs i) (hn i) (hst i)
  rw [fam.ka i] at p
  exact p
end
/-- target = e -/
theorem s_asg {tg : Expr} {js : List Nat} (h : DW (Us X) K B Γ O e ra fun x O' => DG (Us X) K B Γ O' tg ra x js fun Γ' => DS X K B Γ' O' rest D) (hs : swapsWithSole [tg] e pos.line X.env = pure false := by rfl) (hw : swappedStores [tg] e X.env = pure none := by rfl)
    (h1 : (assignEach [tg] X.env).map (·.2) = [assign tg X.env] := by rfl) : DS X K B Γ O (.Assign [tg] e pos :: rest) D := by
  intro σ G H W
  refine WSs.cons (ps_asg (te := WE (Us X) e) (g := WG (Us X) tg) (WE.pe (F := Us X) ()) (WG.pg (F := Us X) ()) hs hw h1) ?_
  exact h σ G H W _ fun x O' v G' H' k W' _ r => k σ G' H' v W' r _ fun Γ' σ' q W2 _ => q σ' G' H' W2
/-- name op= e -/
theorem s_aug [fam : Fam (Us X) P w K mg base k] (i : Nat) {f : Int → Int → Int} {op : Operator} {x : Int} {fg : Option Slot → Gm} [hA : At Γ i rInt x] [hg : SetG Γ i fg] (ho : PIp X op (ipI f)) (h : DW (Us X) K B Γ O e rInt fun y O' => DS X K B (fg (some ⟨rInt, f x y⟩)) O' rest D)
    (hi : X.N[i]? = some n := by rfl) (hx : Loc X.env.scope n := by first | exact Or.inl rfl | exact Or.inr rfl) (hf : X.fn n = true ∨ X.env.scope.names.lookup n = some .local := by first | exact .inr rfl | exact .inl rfl) :
    DS X K B Γ O (.AugAssign (.Name n p) op e pos :: rest) D := by
  intro σ G H W
  obtain ⟨u, h1, h2⟩ := W.env.get hA.get
  refine WSs.cons (ps_aug (te := WE (Us X) e) (fam.nd ()) hi hx (WE.pe (F := Us X) ()) ho hf) ?_
  refine ⟨u, h1, h σ G H W _ fun y O' v G' H' k W' e' r => ⟨x, y, h2, r, k _ G' H' (by rw [hg.eq]; exact W'.set i rfl)⟩⟩
end

/-! ### what is walked -/
/-- the walked thing J gives the items xs, one by one, wherever Gb stands -/
structure Gives (K : Fg) (T : List Addr) (Gb : Hp) (J : It) {α : Type} (r : Rp α) (xs : List α) : Prop where
  go : ∀ i G H, i < xs.length → Ex Gb G → Ex G H → J.go i H
  stop : ∀ G H, Ex Gb G → Ex G H → J.stop xs.length H
  yld : ∀ i G H v H', i < xs.length → Ex Gb G → Ex G H → J.yld i H v H' → ∃ x G', xs[i]? = some x ∧ Stp T [] G H G' H' ∧ r.rep K G' v x
def DI {ι : Type} (F : ι → Cx) (K : Fg) (B : Bs) (Γ : Gm) (O : List Own) (tg e : Expr) {α : Type} (r : Rp α) (Φ : List α → List Own → Prop) : Prop :=
  ∀ σ G H, Ws K B Γ O σ G H → ∀ R : It → Hp → Prop, (∀ xs J O' G' H', Φ xs O' → Gives K B.T G' J r xs → Ws K B Γ O' σ G' H' → Ex G G' → R J H') → WI F tg e σ H R
section
variable {ι : Type} {F : ι → Cx} {K : Fg} {B : Bs} {Γ : Gm} {O : List Own} {α β γ : Type} {ra : Rp α} {rb : Rp β} {e a b tg : Expr} {n : Str} {p pos : Pos}
variable {P : Program} {w : World} {mg : Str → Option Value} {base : Heap} {k : Nat}
theorem Gives.list {T : List Addr} {Gb : Hp} {c : Addr} {vs : List V} {xs : List α} (h : SqL K Gb c vs) (r : All2 (ra.rep K Gb) vs xs) : Gives K T Gb (Itl K c) ra xs where
  go := fun i G H hi e1 e2 => by
    have hv : i < vs.length := by rw [r.length]; exact hi
    exact ⟨vs, vs[i], ex_l (e1.trans e2) h, List.getElem?_eq_getElem hv⟩
  stop := fun G H e1 e2 => ⟨vs, ex_l (e1.trans e2) h, by rw [r.length]; exact Nat.le_refl _⟩
  yld := fun i G H v H' hi e1 e2 ⟨h1, h2⟩ => by
    obtain ⟨x, hx, hr⟩ := r.get (h2 vs (ex_l (e1.trans e2) h))
    subst h1
    exact ⟨x, G, hx, Stp.refl e2, ra.mono e1 hr⟩
theorem Gives.tup {T : List Addr} {Gb : Hp} {c : Addr} {vs : List V} {xs : List α} (h : SqT K Gb c vs) (r : All2 (ra.rep K Gb) vs xs) : Gives K T Gb (Itt K c) ra xs where
  go := fun i G H hi e1 e2 => by
    have hv : i < vs.length := by rw [r.length]; exact hi
    exact ⟨vs, vs[i], ex_t (e1.trans e2) h, List.getElem?_eq_getElem hv⟩
  stop := fun G H e1 e2 => ⟨vs, ex_t (e1.trans e2) h, by rw [r.length]; exact Nat.le_refl _⟩
  yld := fun i G H v H' hi e1 e2 ⟨h1, h2⟩ => by
    obtain ⟨x, hx, hr⟩ := r.get (h2 vs (ex_t (e1.trans e2) h))
    subst h1
    exact ⟨x, G, hx, Stp.refl e2, ra.mono e1 hr⟩
/-- lo, lo + c, .. -/
def rgI (lo c : Int) (m : Nat) : List Int := (List.range m).map fun i : Nat => lo + (i : Int) * c
theorem rgI_len (lo c : Int) (m : Nat) : (rgI lo c m).length = m := by unfold rgI; rw [List.length_map, List.length_range]
theorem rgI_get {lo c : Int} {m i : Nat} (h : i < m) : (rgI lo c m)[i]? = some (lo + (i : Int) * c) := by
  unfold rgI
  rw [List.getElem?_map, List.getElem?_range h]
  rfl
theorem Gives.rng {T : List Addr} {Gb : Hp} (lo : Int) (m : Nat) : Gives K T Gb (Itr lo m) rInt (rgI lo 1 m) where
  go := fun i G H hi e1 e2 => by rw [rgI_len] at hi; exact hi
  stop := fun G H e1 e2 => by rw [rgI_len]; exact Nat.le_refl _
  yld := fun i G H v H' hi e1 e2 ⟨h1, h2⟩ => by
    rw [rgI_len] at hi
    subst h1
    exact ⟨_, G, rgI_get hi, Stp.refl e2, by rw [h2, Int.mul_one]; rfl⟩
theorem Gives.rngC {T : List Addr} {Gb : Hp} (lo c : Int) (m : Nat) : Gives K T Gb (Itc lo c m) rInt (rgI lo c m) where
  go := fun i G H hi e1 e2 => by rw [rgI_len] at hi; exact hi
  stop := fun G H e1 e2 => by rw [rgI_len]; exact Nat.le_refl _
  yld := fun i G H v H' hi e1 e2 ⟨h1, h2⟩ => by
    rw [rgI_len] at hi
    subst h1
    exact ⟨_, G, rgI_get hi, Stp.refl e2, by rw [h2]; rfl⟩
theorem w_lst [fam : Fam F P w K mg base k] {Φ : List α → List Own → Prop} (h : DW F K B Γ O e (rLst ra) Φ) : DI F K B Γ O tg e ra Φ := by
  intro σ G H W R q
  refine ⟨iList K (WE F e), fun i => by rw [← fam.ka i]; exact pi_list (WE.pe i), ?_⟩
  exact h σ G H W _ fun xs O' v G' H' k W' e' ⟨c, vs, h1, h2, h3⟩ => ⟨c, h1, ⟨vs, SqL.of (W'.sub _ _ h2)⟩, q xs _ O' G' H' k (Gives.list (SqL.of h2) h3) W' e'⟩
theorem w_seq [fam : Fam F P w K mg base k] {Φ : List α → List Own → Prop} (h : DW F K B Γ O e (rSeq ra) Φ) : DI F K B Γ O tg e ra Φ := by
  intro σ G H W R q
  refine ⟨iList K (WE F e), fun i => by rw [← fam.ka i]; exact pi_list (WE.pe i), ?_⟩
  exact h σ G H W _ fun xs O' v G' H' k W' e' ⟨c, vs, h1, h2, h3⟩ => ⟨c, h1, ⟨vs, ex_l W'.sub h2⟩, q xs _ O' G' H' k (Gives.list h2 h3) W' e'⟩
theorem w_tpv [fam : Fam F P w K mg base k] {Φ : List α → List Own → Prop} (h : DW F K B Γ O e (rTpv ra) Φ) : DI F K B Γ O tg e ra Φ := by
  intro σ G H W R q
  refine ⟨iTup K (WE F e), fun i => by rw [← fam.ka i]; exact pi_tup (WE.pe i), ?_⟩
  exact h σ G H W _ fun xs O' v G' H' k W' e' ⟨c, vs, h1, h2, h3⟩ => ⟨c, h1, ⟨vs, ex_t W'.sub h2⟩, q xs _ O' G' H' k (Gives.tup h2 h3) W' e'⟩
theorem w_rng1 [fam : Fam F P w K mg base k] {Φ : List Int → List Own → Prop} (hm : mg "range" = none) (h : DW F K B Γ O a rInt fun j O1 => (-(2 ^ 62) ≤ j ∧ j < 2 ^ 62) ∧ Φ (rgI 0 1 j.toNat) O1)
    (hg : ∀ i, Gl (F i) "range" := by intro _; rfl) (hs : ∀ i, starEach [a] (F i).env = [(false, eval a (F i).env)] := by intro _; rfl) : DI F K B Γ O tg (.Call (.Name "range" p) [a] [] pos) rInt Φ := by
  intro σ G H W R q
  refine ⟨iRng1 (tCons (WE F a) tNil), fun i => pi_range1 (hg i) (by rw [fam.mg i]; exact hm) (pa_cons (WE.pe i) pa_nil (hs i)) (hs i), ?_⟩
  refine h σ G H W _ fun j O' v G' H' k W' e' r => ⟨j, by rw [show v = V.int j from r], k.1.1, k.1.2, q _ _ O' G' H' k.2 (Gives.rng 0 j.toNat) W' e'⟩
theorem w_rng2 [fam : Fam F P w K mg base k] {Φ : List Int → List Own → Prop} (hm : mg "range" = none) (h : DW F K B Γ O a rInt fun i O1 => DW F K B Γ O1 b rInt fun j O2 => (-(2 ^ 62) ≤ i ∧ i < 2 ^ 62 ∧ -(2 ^ 62) ≤ j ∧ j < 2 ^ 62) ∧ Φ (rgI i 1 (j - i).toNat) O2)
    (hg : ∀ i, Gl (F i) "range" := by intro _; rfl) (hs : ∀ i, starEach [a, b] (F i).env = [(false, eval a (F i).env), (false, eval b (F i).env)] := by intro _; rfl) (hs2 : ∀ i, starEach [b] (F i).env = [(false, eval b (F i).env)] := by intro _; rfl) :
    DI F K B Γ O tg (.Call (.Name "range" p) [a, b] [] pos) rInt Φ := by
  intro σ G H W R q
  refine ⟨iRng2 (tCons (WE F a) (tCons (WE F b) tNil)), fun i => pi_range2 (hg i) (by rw [fam.mg i]; exact hm) (pa_cons (WE.pe i) (pa_cons (WE.pe i) pa_nil (hs2 i)) ?_) (hs i) (hs2 i), ?_⟩
  · rw [hs i, hs2 i]
  · refine h σ G H W _ fun i O1 v G1 H1 k1 W1 e1 r1 => ?_
    exact k1 σ G1 H1 W1 _ fun j O' u G' H' k W' e' r => ⟨i, j, by rw [show u = V.int j from r, show v = V.int i from r1], k.1, q _ _ O' G' H' k.2 (Gives.rng i (j - i).toNat) W' (e1.trans e')⟩
/-- reversed(range(a)) -/
theorem w_rev1 [fam : Fam F P w K mg base k] {p2 pos2 : Pos} {Φ : List Int → List Own → Prop} (hm : mg "range" = none) (hm2 : mg "reversed" = none) (h : DW F K B Γ O a rInt fun j O1 => (-(2 ^ 62) ≤ j ∧ j < 2 ^ 62) ∧ Φ (rgI ((j.toNat : Int) - 1) (-1) j.toNat) O1)
    (hg : ∀ i, Gl (F i) "range" := by intro _; rfl) (hg2 : ∀ i, Gl (F i) "reversed" := by intro _; rfl) (hs : ∀ i, starEach [a] (F i).env = (false, eval a (F i).env) :: starEach [] (F i).env := by intro _; rfl)
    (hs2 : ∀ i, starEach [.Call (.Name "range" p2) [a] [] pos2] (F i).env = (false, eval (.Call (.Name "range" p2) [a] [] pos2) (F i).env) :: starEach [] (F i).env := by intro _; rfl) :
    DI F K B Γ O tg (.Call (.Name "reversed" p) [.Call (.Name "range" p2) [a] [] pos2] [] pos) rInt Φ := by
  intro σ G H W R q
  refine ⟨_, fun i => pi_revR (hg2 i) (by rw [fam.mg i]; exact hm2) (prg_1 (hg i) (by rw [fam.mg i]; exact hm) (WE.pe i) (hs i)) (hs2 i), ?_⟩
  refine h σ G H W _ fun j O' v G' H' k W' e' r => ⟨j, r, by decide, by decide, k.1.1, k.1.2, ?_⟩
  have e1 : (j - 0).toNat = j.toNat := by rw [Int.sub_zero]
  have e2 : (0 : Int) + ((j.toNat : Nat) : Int) - 1 = (j.toNat : Int) - 1 := by rw [Int.zero_add]
  rw [e1, e2]
  exact q _ _ O' G' H' k.2 (Gives.rngC _ _ _) W' e'
end

/-! ### loops -/
section
variable {X : Cx} {K : Fg} {B : Bs} {Γ Γ' : Gm} {O O' : List Own} {α β : Type} {ra : Rp α} {D D0 : Ends} {e c tg iter : Expr} {rest body : List Stmt} {n : Str} {pos p : Pos}
variable {P : Program} {w : World} {mg : Str → Option Value} {base : Heap} {k : Nat}
/-- one more heap that stays told -/
abbrev Bs.push (B : Bs) (g : Hp) : Bs := { B with bs := g :: B.bs }
/-- what holds between two turns: d with P -/
def LpJ (K : Fg) (B : Bs) {δ : Type} (Pv : δ → Prop) (Γf : δ → Gm) (Of : δ → List Own) : St → Hp → Prop := fun σ H => ∃ d G, Pv d ∧ Ws K B (Γf d) (Of d) σ G H
def LpE (X : Cx) (K : Fg) (B : Bs) {δ : Type} (Pv : δ → Prop) (Γf : δ → Gm) (Of : δ → List Own) (rest : List Stmt) (D : Ends) : Ends :=
  { nx := LpJ K B Pv Γf Of, rt := D.rt, bk := WSs X rest D, ct := LpJ K B Pv Γf Of }
/-- the end of a turn -/
theorem s_next {δ : Type} {Pv : δ → Prop} {Γf : δ → Gm} {Of : δ → List Own} (d : δ) (h : Pv d) (hw : Wk Γ (Γf d)) (ho : O = Of d) : DS X K B Γ O [] (LpE X K B Pv Γf Of rest D) :=
  s_nil fun σ G H W => ⟨d, G, h, by rw [← ho]; exact W.wk hw⟩
theorem s_contL {δ : Type} {Pv : δ → Prop} {Γf : δ → Gm} {Of : δ → List Own} {r2 : List Stmt} (d : δ) (h : Pv d) (hw : Wk Γ (Γf d)) (ho : O = Of d) : DS X K B Γ O (.Continue pos :: r2) (LpE X K B Pv Γf Of rest D) :=
  s_cont fun σ G H W => ⟨d, G, h, by rw [← ho]; exact W.wk hw⟩
theorem s_brkL {g : Hp} {δ : Type} {Pv : δ → Prop} {Γf : δ → Gm} {Of : δ → List Own} {r2 : List Stmt} (h : DS X K B Γ O rest D) : DS X K (B.push g) Γ O (.Break pos :: r2) (LpE X K (B.push g) Pv Γf Of rest D) :=
  s_brk fun σ G H W => h σ G H W.unbase
theorem s_for [fam : Fam (Us X) P w K mg base k] {js : List Nat}
    (h : DI (Us X) K B Γ O tg iter ra fun xs O1 => ∃ (δ : Type) (Pv : Nat → δ → Prop) (Γf : δ → Gm) (Of : δ → List Own), (∃ d, Pv 0 d ∧ Wk Γ (Γf d) ∧ O1 = Of d) ∧
      (∀ g i x d, xs[i]? = some x → Pv i d → DG (Us X) K (B.push g) (Γf d) (Of d) tg ra x js fun Γ' => DS X K (B.push g) Γ' (Of d) body (LpE X K (B.push g) (Pv (i + 1)) Γf Of rest D)) ∧
      (∀ d, Pv xs.length d → DS X K B (Γf d) (Of d) rest D))
    (hp : PassesOwn (model X.prog X.w) X.A X.env X.xe := by first | exact PassesOwn.never | assumption) (hs : ∀ x, foldedSetIterable iter X.env x = pure x := by intro _; rfl) : DS X K B Γ O (.For tg iter body [] pos :: rest) D := by
  intro σ G H W
  refine WSs.cons (ps_for hp (fam.cm ()) (WI.pi (F := Us X) ()) (WG.pg (F := Us X) ()) (WSs.pss (X := X)) hs) ?_
  refine h σ G H W _ fun xs J O1 G1 H1 ⟨δ, Pv, Γf, Of, ⟨d0, p0, w0, o0⟩, hst, hd⟩ gv W1 _ => ?_
  refine ⟨fun i m σ H => m = xs.length - i ∧ i ≤ xs.length ∧ LpJ K (B.push G1) (Pv i) Γf Of σ H, ⟨xs.length, by simp, Nat.zero_le _, d0, G1, p0, ?_⟩, ?_⟩
  · rw [← o0]
    exact (W1.wk w0).base
  rintro i m σ2 H2 ⟨rfl, hi, d, G2, pd, W2⟩
  have eb : Ex G1 G2 := W2.bs G1 List.mem_cons_self
  by_cases hlt : i < xs.length
  · refine .inr ⟨gv.go i G2 H2 hlt eb W2.sub, LpJ K (B.push G1) (Pv (i + 1)) Γf Of, fun σ' H' j => ⟨xs.length - (i + 1), by omega, rfl, hlt, j⟩, fun v H3 y => ?_⟩
    obtain ⟨x, G3, hx, s3, r3⟩ := gv.yld i G2 H2 v H3 hlt eb W2.sub y
    exact hst G1 i x d hx pd σ2 G3 H3 v (W2.step s3) r3 _ fun Γ' σ' q W' _ => q σ' G3 H3 W'
  · obtain rfl : i = xs.length := by omega
    exact .inl ⟨gv.stop G2 H2 eb W2.sub, hd d pd σ2 G2 H2 W2.unbase⟩
theorem s_while {δ : Type} (Pv : δ → Prop) (μ : δ → Nat) (Γf : δ → Gm) (Of : δ → List Own) (d0 : δ) (p0 : Pv d0) (w0 : Wk Γ (Γf d0)) (o0 : O = Of d0)
    (h : ∀ d, Pv d → DT (Us X) K B (Γf d) (Of d) c fun b O' => (b = true → DS X K B (Γf d) O' body (LpE X K B (fun d' => Pv d' ∧ μ d' < μ d) Γf Of rest D)) ∧ (b = false → DS X K B (Γf d) O' rest D))
    (hp : PassesOwn (model X.prog X.w) X.A X.env X.xe := by first | exact PassesOwn.never | assumption) : DS X K B Γ O (.While c body [] pos :: rest) D := by
  intro σ G H W
  refine WSs.cons (ps_while hp (WT.pt (F := Us X) ()) (WSs.pss (X := X))) ?_
  refine ⟨fun m σ H => ∃ d G, m = μ d ∧ Pv d ∧ Ws K B (Γf d) (Of d) σ G H, ⟨μ d0, d0, G, rfl, p0, by rw [← o0]; exact W.wk w0⟩, ?_⟩
  rintro m σ2 H2 ⟨d, G2, rfl, pd, W2⟩
  refine h d pd σ2 G2 H2 W2 _ fun b O' G' H' k W' _ => ?_
  cases b with
  | true =>
    refine iteT ⟨LpJ K B (fun d' => Pv d' ∧ μ d' < μ d) Γf Of, fun σ' H' ⟨d', G', ⟨p', l⟩, W'⟩ => ⟨μ d', l, d', G', rfl, p', W'⟩, ?_⟩
    exact k.1 rfl σ2 G' H' W'
  | false => exact iteF (k.2 rfl σ2 G' H' W')
end
end Sk


set_option Elab.async false
set_option linter.all false
set_option maxRecDepth 100000
set_option maxHeartbeats 4100000
/-! Sk4: own objects that change, comprehensions, promises of defs, dicts by written keys. -/
namespace Sk
open PySem L2 Evl

/-! ### own objects -/
section
variable {K : Fg} {B : Bs} {Γ Γ' : Gm} {O O' : List Own} {σ : St} {G H G' H' : Hp}
theorem nd_idx {α : Type} {l : List α} (hN : l.Nodup) {i j : Nat} {x : α} (a : l[i]? = some x) (b : l[j]? = some x) : i = j := L2.nd_ix hN a b
/-- the j-th own object changes -/
theorem Ws.mutAt {α β : Type} {j : Nat} {p : Addr} {o : HO} {r : Ow α} {x : α} {r' : Ow β} {x' : β} (W : Ws K B Γ O σ G H) (hj : O[j]? = some ⟨p, r, x⟩) (h : r'.rep K G o x') : Ws K B Γ (O.set j ⟨p, r', x'⟩) σ G (upd H p o) := by
  obtain ⟨_, h3, h4, h5⟩ := W.own _ (List.mem_of_getElem? hj)
  have hl : j < O.length := (List.getElem?_eq_some_iff.mp hj).1
  have s : Stp B.T [p] G H G (upd H p o) := Stp.mut W.sub h3 h4
  have em : (O.set j ⟨p, r', x'⟩).map (·.a) = O.map (·.a) := by
    refine List.ext_getElem? fun i => ?_
    rw [List.getElem?_map (l := O.set j _), List.getElem?_map (l := O)]
    by_cases hi : j = i
    · subst hi
      rw [List.getElem?_set_self hl, hj]
      rfl
    · rw [List.getElem?_set_ne hi]
  refine ⟨W.st.trans s fun c hc => ?_, fun P hP => ⟨s.tab P hP (W.tab P hP).1, (W.tab P hP).2⟩, W.bs, W.env, fun w hw => ?_, by rw [em]; exact W.nd, W.mh⟩
  · have e : c = p := by simpa using hc
    subst e
    exact h5.symm
  · obtain ⟨i, hi⟩ := List.getElem?_of_mem hw
    by_cases hij : j = i
    · subst hij
      rw [List.getElem?_set_self hl] at hi
      have e := Option.some.inj hi
      subst e
      exact ⟨⟨o, upd_same, h⟩, h3, h4, h5⟩
    · rw [List.getElem?_set_ne hij] at hi
      obtain ⟨⟨u, g1, g2⟩, g3, g4, g5⟩ := W.own w (List.mem_of_getElem? hi)
      have ne : w.a ≠ p := fun e => hij (nd_idx W.nd (by rw [List.getElem?_map, hj]; rfl) (by rw [List.getElem?_map, hi, ← e]; rfl))
      exact ⟨⟨u, by rw [upd_ne ne]; exact g1, g2⟩, g3, g4, g5⟩
/-- where an own object stands among the others -/
class OwnAt (O : List Own) (p : Addr) {α : outParam Type} (r : outParam (Ow α)) (x : outParam α) (f : outParam (Own → List Own)) : Prop where
  at_ : ∃ j, O[j]? = some ⟨p, r, x⟩ ∧ ∀ w, f w = O.set j w
instance (priority := high) ownAt0 {O : List Own} {p : Addr} {α : Type} {r : Ow α} {x : α} : OwnAt (⟨p, r, x⟩ :: O) p r x (fun w => w :: O) := ⟨⟨0, rfl, fun _ => rfl⟩⟩
instance ownAtS {O : List Own} {v : Own} {p : Addr} {α : Type} {r : Ow α} {x : α} {f : Own → List Own} [h : OwnAt O p r x f] : OwnAt (v :: O) p r x (fun w => v :: f w) := ⟨by
  obtain ⟨j, h1, h2⟩ := h.at_
  exact ⟨j + 1, h1, fun w => by rw [h2]; rfl⟩⟩
theorem Ws.mutO {α β : Type} {p : Addr} {o : HO} {r : Ow α} {x : α} {r' : Ow β} {x' : β} {f : Own → List Own} [h : OwnAt O p r x f] (W : Ws K B Γ O σ G H) (hr : r'.rep K G o x') : Ws K B Γ (f ⟨p, r', x'⟩) σ G (upd H p o) := by
  obtain ⟨j, h1, h2⟩ := h.at_
  rw [h2]
  exact W.mutAt h1 hr
theorem Ws.ownO {α : Type} {p : Addr} {r : Ow α} {x : α} {f : Own → List Own} (h : OwnAt O p r x f) (W : Ws K B Γ O σ G H) : ∃ o, H p = some o ∧ r.rep K G o x := by
  obtain ⟨j, h1, h2⟩ := h.at_
  exact (W.own _ (List.mem_of_getElem? h1)).ob
/-- from here on it will not change -/
theorem Ws.frz {α : Type} {p : Addr} {r : Ow α} {x : α} (W : Ws K B Γ (⟨p, r, x⟩ :: O) σ G H) (hM : p ∉ B.M) : ∃ o, r.rep K G o x ∧ Ws K B Γ O σ (upd G p o) H ∧ Ex G (upd G p o) := by
  obtain ⟨⟨o, h1, h2⟩, h3, h4, h5⟩ := W.own _ List.mem_cons_self
  have h0 : B.H0 p = none := h5.resolve_right hM
  have e1 : Ex G (upd G p o) := Ex.new h3
  refine ⟨o, h2, ⟨⟨fun a u e => ?_, W.st.g.trans e1, W.st.h, W.st.th, fun a q q2 => ?_, W.st.tab⟩, fun P hP => ⟨(W.tab P hP).1, ?_⟩, fun g hg => (W.bs g hg).trans e1, W.env.mono e1, fun w hw => ?_, (List.nodup_cons.mp W.nd).2, W.mh⟩, e1⟩
  · by_cases q : a = p
    · subst q
      rw [upd_same] at e
      rw [← e]
      exact h1
    · rw [upd_ne q] at e
      exact W.sub a u e
  · by_cases q3 : a = p
    · rw [q3]
      exact h0
    · rw [upd_ne q3] at q2
      exact W.st.fr a q q2
  · rw [upd_ne (show P ≠ p from fun z => h4 (by rw [← z]; exact hP))]
    exact (W.tab P hP).2
  · obtain ⟨⟨u, g1, g2⟩, g3, g4, g5⟩ := W.own w (List.mem_cons_of_mem _ hw)
    have ne : w.a ≠ p := fun e => (List.nodup_cons.mp W.nd).1 (List.mem_map.mpr ⟨w, hw, e⟩)
    exact ⟨⟨u, g1, w.r.mono e1 g2⟩, by rw [upd_ne ne]; exact g3, g4, g5⟩
end

section
variable {ι : Type} {F : ι → Cx} {K : Fg} {B : Bs} {Γ : Gm} {O : List Own} {α β γ : Type} {ra : Rp α} {rb : Rp β} {e a b tg o : Expr} {es : List Expr} {n : Str} {p pos apos : Pos}
variable {P : Program} {w : World} {mg : Str → Option Value} {base : Heap} {k : Nat}
/-- len, an item, sum of an own list -/
theorem c_lenO {q : Addr} {xs : List α} {f : Own → List Own} [h : OwnAt O q (oLst ra) xs f] {Φ : Int → List Own → Prop} (k : Φ (xs.length : Int) O) (hK : ∀ j, (F j).K = K := by intro _; rfl) : CW F K B Γ O (.builtin "len") (fOne rAdr) q rInt Φ :=
  fun σ G H vs W ⟨v, e, h1⟩ Q q' => by
    obtain ⟨u, h2, ws, h3, h4⟩ := W.ownO h
    subst h3
    exact ⟨fun xs H Q => ∃ p ys, xs = [.ref p] ∧ (SqL K H p ys ∨ SqT K H p ys) ∧ Q (.int ys.length) H, fun j => by rw [← hK j]; exact call_len_seq, q, ws, by rw [e, show v = V.ref q from h1], .inl (SqL.of h2), q' _ O _ G H k W (Ex.refl _) (by rw [h4.length]; rfl)⟩
theorem i_lstO {q : Addr} {xs : List α} {i : Int} {x : α} {f : Own → List Own} [ho : OwnAt O q (oLst ra) xs f] {Φ : α → List Own → Prop} (h : atI xs i = some x) (k : Φ x O) (hK : ∀ j, (F j).K = K := by intro _; rfl) : IW F K B Γ O rAdr rInt q i ra Φ := by
  intro σ G H v w W rv rw Q q'
  obtain ⟨u, h2, ws, h3, h4⟩ := W.ownO ho
  subst h3
  unfold atI at h
  obtain ⟨j, h5, h6⟩ := Option.bind_eq_some_iff.mp h
  obtain ⟨u, h7, h8⟩ := h4.get' h6
  refine ⟨rIxL K, fun j => by rw [← hK j]; exact ix_list, q, ws, i, u, rv, rw, SqL.of h2, ?_, q' x O u G H k W (Ex.refl _) h8⟩
  unfold atI
  rw [h4.length, h5]
  exact h7
theorem c_sumO {q : Addr} {xs : List Int} {f : Own → List Own} [h : OwnAt O q (oLst rInt) xs f] {Φ : Int → List Own → Prop} (k : Φ xs.sum O) (hK : ∀ j, (F j).K = K := by intro _; rfl) (hc : ∀ j, (F j).calm = true := by intro _; rfl) :
    CW F K B Γ O (.builtin "sum") (fOne rAdr) q rInt Φ :=
  fun σ G H vs W ⟨v, e, h1⟩ Q q' => by
    obtain ⟨u, h2, ws, h3, h4⟩ := W.ownO h
    subst h3
    have e2 := All2.map_int h4
    exact ⟨rSum K, fun j => by rw [← hK j]; exact cr_sum (hc j), q, xs, by rw [e, show v = V.ref q from h1], SqL.of (by rw [← e2]; exact h2), q' _ O _ G H k W (Ex.refl _) rfl⟩
theorem c_sumL {xs : List Int} {Φ : Int → List Own → Prop} (k : Φ xs.sum O) (hK : ∀ j, (F j).K = K := by intro _; rfl) (hc : ∀ j, (F j).calm = true := by intro _; rfl) :
    CW F K B Γ O (.builtin "sum") (fOne (rLst rInt)) xs rInt Φ :=
  fun σ G H vs W ⟨v, e, a, ws, h1, h2, h3⟩ Q q' => by
    have e2 := All2.map_int h3
    exact ⟨rSum K, fun j => by rw [← hK j]; exact cr_sum (hc j), a, xs, by rw [e, h1], SqL.of (W.sub _ _ (by rw [← e2]; exact h2)), q' _ O _ G H k W (Ex.refl _) rfl⟩
/-- a method of an own list, of a list: what it asks of values -/
def MW (F : ι → Cx) (K : Fg) (B : Bs) (Γ : Gm) (O : List Own) (r : V → List V → Hp → VK → Prop) (ra : Rp α) (x : α) (f : RpF β) (y : β) (rc : Rp γ) (Φ : γ → List Own → Prop) : Prop :=
  ∀ σ G H v vs, Ws K B Γ O σ G H → ra.rep K G v x → f.rep K G vs y → ∀ Q : VK, (∀ z O' u G' H', Φ z O' → Ws K B Γ O' σ G' H' → Ex G G' → rc.rep K G' u z → Q u H') → r v vs H Q
theorem d_bm [fam : Fam F P w K mg base k] {T id : String} {name : Str} {r : V → List V → Hp → VK → Prop} {f : RpF β} {Φ : γ → List Own → Prop} (pa : PlainAttrs T) (slot : PySem.Slot T name id) (hty : typeOf (.builtin id) = pure (.type "method_descriptor")) (hm : ∀ j, MtR (F j) id r)
    (h : DW F K B Γ O o ra fun x O1 => (∀ σ G H v, Ws K B Γ O1 σ G H → ra.rep K G v x → tyV K T v H) ∧ DA F K B Γ O1 (e :: es) f fun y O2 => MW F K B Γ O2 r ra x f y rc Φ)
    (hbase : ∀ j, attributeBase o name (F j).env (eval o (F j).env) = eval o (F j).env := by intro _; rfl)
    (hfew : ∀ j, ((backTo pos (starEach (e :: es) (F j).env)).all (fun x => !x.1) && (backToKw pos (keywordEach [] (F j).env)).all (fun x => x.1.isSome)
      && decide ((e :: es).length + ([] : List Keyword).length + (if ([] : List Keyword).isEmpty then 0 else 1) < 30)) = true := by intro _; rfl)
    (hline : (apos.endLine == pos.line) = true := by rfl) (hs : ∀ j, starEach (e :: es) (F j).env = (false, eval e (F j).env) :: starEach es (F j).env := by intro _; rfl)
    (hpl : ∀ j, (backTo pos (starEach es (F j).env)).any (·.1) = false := by intro _; rfl) :
    DW F K B Γ O (.Call (.Attribute o name apos) (e :: es) [] pos) rc Φ := by
  intro σ G H W Q q
  refine ⟨tBM K T r (WE F o) (WA F (e :: es)), fun j => ?_, ?_⟩
  · have p := pe_bm (X := F j) pa slot hty (hm j) (WE.pe j) (WA.pa j) (hbase j) (hfew j) hline (hs j) (hpl j)
    rw [fam.ka j] at p
    exact p
  · refine h σ G H W _ fun x O1 v G1 H1 ⟨hT, k1⟩ W1 e1 r1 => ⟨hT σ G1 H1 v W1 r1, ?_⟩
    exact k1 σ G1 H1 W1 _ fun y O2 vs G2 H2 k2 W2 e2 r2 => k2 σ G2 H2 v vs W2 (ra.mono e2 r1) r2 Q fun z O' u G' H' kk W' e' r' => q z O' u G' H' kk W' ((e1.trans e2).trans e') r'
theorem d_bm0 [fam : Fam F P w K mg base k] {T id : String} {name : Str} {r : V → List V → Hp → VK → Prop} {Φ : γ → List Own → Prop} (pa : PlainAttrs T) (slot : PySem.Slot T name id) (hty : typeOf (.builtin id) = pure (.type "method_descriptor")) (hm : ∀ j, MtR (F j) id r)
    (h : DW F K B Γ O o ra fun x O1 => (∀ σ G H v, Ws K B Γ O1 σ G H → ra.rep K G v x → tyV K T v H) ∧ MW F K B Γ O1 r ra x fNil () rc Φ)
    (hbase : ∀ j, attributeBase o name (F j).env (eval o (F j).env) = eval o (F j).env := by intro _; rfl) (hline : (apos.endLine == pos.line) = true := by rfl) :
    DW F K B Γ O (.Call (.Attribute o name apos) [] [] pos) rc Φ := by
  intro σ G H W Q q
  refine ⟨tBM0 K T r (WE F o), fun j => ?_, ?_⟩
  · have p := pe_bm0 (X := F j) (cpos := pos) pa slot hty (hm j) (WE.pe j) (hbase j) hline
    rw [fam.ka j] at p
    exact p
  · refine h σ G H W _ fun x O1 v G1 H1 ⟨hT, k1⟩ W1 e1 r1 => ⟨hT σ G1 H1 v W1 r1, ?_⟩
    exact k1 σ G1 H1 v [] W1 r1 rfl Q fun z O' u G' H' kk W' e' r' => q z O' u G' H' kk W' (e1.trans e') r'
theorem tyO {O1 : List Own} {q : Addr} {xs : List α} {f : Own → List Own} (h : OwnAt O1 q (oLst ra) xs f) : ∀ σ G H v, Ws K B Γ O1 σ G H → rAdr.rep K G v q → tyV K "list" v H := fun σ G H v W r => by
  obtain ⟨u, h2, ws, h3, _⟩ := W.ownO h
  subst h3
  rw [show v = V.ref q from r]
  exact .inl ⟨rfl, ws, SqL.of h2⟩
/-- xs.append(e), an own list -/
theorem d_app [fam : Fam F P w K mg base k] {Φ : Unit → List Own → Prop} (h : DW F K B Γ O o rAdr fun q O1 => ∃ xs1 f1, OwnAt O1 q (oLst ra) xs1 f1 ∧ DW F K B Γ O1 e ra fun y O2 => ∃ xs f, OwnAt O2 q (oLst ra) xs f ∧ xs.length < sizeLine ∧ Φ () (f ⟨q, oLst ra, xs ++ [y]⟩))
    (hbase : ∀ j, attributeBase o "append" (F j).env (eval o (F j).env) = eval o (F j).env := by intro _; rfl)
    (hfew : ∀ j, ((backTo pos (starEach [e] (F j).env)).all (fun x => !x.1) && (backToKw pos (keywordEach [] (F j).env)).all (fun x => x.1.isSome)
      && decide ([e].length + ([] : List Keyword).length + (if ([] : List Keyword).isEmpty then 0 else 1) < 30)) = true := by intro _; rfl)
    (hline : (apos.endLine == pos.line) = true := by rfl) (hs : ∀ j, starEach [e] (F j).env = (false, eval e (F j).env) :: starEach [] (F j).env := by intro _; rfl) :
    DW F K B Γ O (.Call (.Attribute o "append" apos) [e] [] pos) rNon Φ := by
  refine d_bm (ra := rAdr) (f := fOne ra) PySem.F.plainAttrs_list PySem.F.slot_list_append PySem.F.type_list_append (fun j => mt_append) ?_ hbase hfew hline hs (fun _ => rfl)
  refine d_mono h fun q O1 ⟨xs1, f1, hO1, h1⟩ => ⟨tyO hO1, da_one (d_mono h1 fun y O2 ⟨xs, f, hO, hl, kk⟩ => ?_) hs⟩
  intro σ G H v vs W rv ⟨u, e1, ru⟩ Q q'
  obtain ⟨ob, h2, ws, h3, h4⟩ := W.ownO hO
  subst h3
  refine ⟨q, ws, u, rv, e1, h2, by rw [h4.length]; exact hl, q' () _ .non G _ kk ?_ (Ex.refl _) rfl⟩
  exact W.mutO (h := hO) (r' := oLst ra) (x' := xs ++ [y]) ⟨ws ++ [u], rfl, h4.append ⟨ru, trivial⟩⟩
end

/-! ### comprehensions -/
section
variable {ι : Type} {F : ι → Cx} {K : Fg} {B : Bs} {Γ : Gm} {O : List Own} {α β γ : Type} {ra : Rp α} {rb : Rp β} {e a b tg elt iter : Expr} {ifs : List Expr} {n : Str} {p pos : Pos} {scope : Scope}
variable {P : Program} {w : World} {mg : Str → Option Value} {base : Heap} {k : Nat}
theorem wipe_wipe {σ : St} {vs : List Nat} : wipe (wipe σ vs) vs = wipe σ vs := List.ext_getElem? fun j => by
  rw [wipe_at, wipe_at]
  by_cases hj : j ∈ vs
  · rw [if_pos hj, if_pos hj, wipe_length]
  · rw [if_neg hj, if_neg hj]
/-- the contexts of a comprehension's block -/
abbrev blkF {ι : Type} (F : ι → Cx) (scope : Scope) : ι × Shared × Hp × Addr × List (Str × Addr) × List Addr → Cx := fun j => (F j.1).blk j.2.1 j.2.2.1 scope (compEnvC scope j.2.2.2.2.1 j.2.2.2.1 (F j.1).env) j.2.2.2.2.2
instance famBlk [fam : Fam F P w K mg base k] : Fam (blkF F scope) P w K mg base k :=
  ⟨fun j => fam.pr j.1, fun j => fam.wd j.1, fun j => fam.ka j.1, fun j => fam.mg j.1, fun j => fam.bs j.1, fun j => fam.rm j.1, fun j => fam.cm j.1, fun j => fam.nd j.1⟩
theorem EnvR.dropAt {K : Fg} {G : Hp} : ∀ {σ : St} {Γ : Gm} (i : Nat), EnvR K G σ Γ → EnvR K G (σ.set i none) (Γ.set i none)
  | [], [], _, _ => trivial
  | v :: σ, none :: Γ, 0, h => (show EnvR K G σ Γ from h)
  | v :: σ, some s' :: Γ, 0, ⟨_, h⟩ => (show EnvR K G σ Γ from h)
  | v :: σ, none :: Γ, i + 1, h => EnvR.dropAt (σ := σ) (Γ := Γ) i h
  | v :: σ, some s' :: Γ, i + 1, ⟨a, h⟩ => ⟨a, EnvR.dropAt i h⟩
  | [], _ :: _, _, h => h.elim
  | _ :: _, [], _, h => h.elim
/-- the env with some slots forgotten -/
class WipeG (Γ : Gm) (vs : List Nat) (Γ' : outParam Gm) : Prop where
  env : ∀ {K : Fg} {G : Hp} {σ : St}, EnvR K G σ Γ → EnvR K G (wipe σ vs) Γ'
instance wipeNil {Γ : Gm} : WipeG Γ [] Γ := ⟨fun h => h⟩
instance wipeCons {Γ Γ' : Gm} {v : Nat} {vs : List Nat} {f : Option Slot → Gm} [h : WipeG Γ vs Γ'] [g : SetG Γ' v f] : WipeG Γ (v :: vs) (f none) := ⟨fun q => by
  rw [g.eq]
  exact (h.env q).dropAt v⟩
theorem Ws.env' {K : Fg} {B : Bs} {Γ Γ' : Gm} {O : List Own} {σ σ' : St} {G H : Hp} (W : Ws K B Γ O σ G H) (h : EnvR K G σ' Γ') : Ws K B Γ' O σ' G H := ⟨W.st, W.tab, W.bs, h, W.own, W.nd, W.mh⟩
theorem dts_nil {Φ : Bool → List Own → Prop} (h : Φ true O) : DTs F K B Γ O [] Φ := fun σ G H W Q q => ⟨_, fun _ => pts_nil, q true O G H h W (Ex.refl _)⟩
theorem dts_one {Φ : Bool → List Own → Prop} (h : DT F K B Γ O e Φ) : DTs F K B Γ O [e] Φ := fun σ G H W Q q => ⟨_, fun i => pts_one (WT.pt i), h σ G H W Q q⟩
/-- [elt for tg in iter if ..]: a list of one's own; behind i items ys is made and d holds -/
theorem d_lcO [fam : Fam F P w K mg base k] (own : List (Str × Nat)) (vs : List Nat) (ok : ∀ i, BlkOk (F i).N (F i).env.scope scope own) {Γ' : Gm} [hw : WipeG Γ vs Γ'] {js : List Nat} {Φ : Addr → List Own → Prop}
    (h : DI F K B Γ O tg iter ra fun xs O1 => ∃ (δ : Type) (Pv : Nat → List β → δ → Prop) (Of : δ → List Own), (∃ d, Pv 0 [] d ∧ O1 = Of d) ∧
      (∀ g D i x ys d, xs[i]? = some x → Pv i ys d → DG (blkF F scope) K (B.push g) Γ' (⟨D, oLst rb, ys⟩ :: Of d) tg ra x js fun Γ2 => DTs (blkF F scope) K (B.push g) Γ2 (⟨D, oLst rb, ys⟩ :: Of d) ifs fun t O2 =>
        (t = true → DW (blkF F scope) K (B.push g) Γ2 O2 elt rb fun y O3 => ∃ d', O3 = ⟨D, oLst rb, ys⟩ :: Of d' ∧ ys.length < sizeLine ∧ Pv (i + 1) (ys ++ [y]) d') ∧ (t = false → ∃ d', O2 = ⟨D, oLst rb, ys⟩ :: Of d' ∧ Pv (i + 1) ys d')) ∧
      (∀ D ys d, D ∉ B.M → Pv xs.length ys d → Φ D (⟨D, oLst rb, ys⟩ :: Of d)))
    (hv : own.map (·.2) = vs := by rfl) (hjs : ∀ j ∈ js, j ∈ vs := by decide) (hs : ∀ i x, foldedSetIterable iter (F i).env x = pure x := by intro _ _; rfl) :
    DW F K B Γ O (.ListComp elt [⟨tg, iter, ifs, 0⟩] scope pos) rAdr Φ := by
  intro σ G H W Q q
  refine ⟨tLc (WI F tg iter) (WG (blkF F scope) tg) (WTs (blkF F scope) ifs) (WE (blkF F scope) elt) (own.map (·.2)), fun i => pe_lc (fam.cm i) (fam.nd i) (WI.pi i) (ok i) (fun s H C cl fp => WG.pg (F := blkF F scope) (i, s, H, C, cl, fp))
    (fun s H C cl fp => WTs.pts (F := blkF F scope) (i, s, H, C, cl, fp)) (fun s H C cl fp => WE.pe (F := blkF F scope) (i, s, H, C, cl, fp)) (hs i), ?_⟩
  refine h σ G H W _ fun xs J O1 G1 H1 ⟨δ, Pv, Of, ⟨d0, p0, o0⟩, hst, hd⟩ gv W1 e1 D hD => ?_
  rw [hv]
  have hG : ∀ {G' : Hp}, Ex G1 G' → EnvR K G' σ Γ := fun e => W.env.mono (e1.trans e)
  refine ⟨fun i m H => m = xs.length - i ∧ i ≤ xs.length ∧ ∃ ys d G2, Pv i ys d ∧ Ws K (B.push G1) Γ' (⟨D, oLst rb, ys⟩ :: Of d) (wipe σ vs) G2 H, ⟨xs.length, by simp, Nat.zero_le _, [], d0, G1, p0, ?_⟩, ?_⟩
  · have W2 := (W1.newOwn hD (r := oLst rb) (x := []) ⟨[], rfl, trivial⟩).base
    rw [o0] at W2
    exact W2.env' (hw.env (hG (Ex.refl _)))
  rintro i m H2 ⟨rfl, hi, ys, d, G2, pd, W2⟩
  have eb : Ex G1 G2 := W2.bs G1 List.mem_cons_self
  by_cases hlt : i < xs.length
  · refine .inr ⟨gv.go i G2 H2 hlt eb W2.sub, fun H' => i + 1 ≤ xs.length ∧ ∃ ys d G2, Pv (i + 1) ys d ∧ Ws K (B.push G1) Γ' (⟨D, oLst rb, ys⟩ :: Of d) (wipe σ vs) G2 H', fun H' ⟨l, z⟩ => ⟨xs.length - (i + 1), by omega, rfl, l, z⟩, fun v H3 y => ?_⟩
    obtain ⟨x, G3, hx, s3, r3⟩ := gv.yld i G2 H2 v H3 hlt eb W2.sub y
    have W3 := W2.step s3
    refine hst G1 D i x ys d hx pd (wipe σ vs) G3 H3 v W3 r3 _ fun Γ2 σ2 q2 W4 wp => ⟨(wp vs hjs).trans wipe_wipe, ?_⟩
    refine q2 σ2 G3 H3 W4 _ fun t O2 G4 H4 kk W5 e5 => ?_
    have back : ∀ {O' : List Own} {G' H' : Hp}, Ws K (B.push G1) Γ2 O' σ2 G' H' → Ws K (B.push G1) Γ' O' (wipe σ vs) G' H' := fun W' => W'.env' (hw.env (hG (W'.bs G1 List.mem_cons_self)))
    cases t with
    | false =>
      obtain ⟨d', o2, p2⟩ := kk.2 rfl
      subst o2
      exact iteF ⟨hlt, ys, d', G4, p2, back W5⟩
    | true =>
      refine iteT ?_
      refine kk.1 rfl σ2 G4 H4 W5 _ fun y O3 u G5 H5 ⟨d', o3, hl, p3⟩ W6 e6 r6 => ?_
      subst o3
      obtain ⟨⟨ob, h1, ws, h2, h3⟩, _⟩ := W6.own _ List.mem_cons_self
      subst h2
      refine ⟨ws, h1, by rw [h3.length]; exact hl, hlt, ys ++ [y], d', G5, p3, ?_⟩
      exact back (W6.mutHd (r' := oLst rb) (x' := ys ++ [y]) ⟨ws ++ [u], rfl, h3.append ⟨r6, trivial⟩⟩)
  · obtain rfl : i = xs.length := by omega
    refine .inl ⟨gv.stop G2 H2 eb W2.sub, q D _ (.ref D) G2 H2 (hd D ys d (W1.notM hD) pd) (W2.unbase.env' (hG eb)) (e1.trans eb) rfl⟩
/-- the same, the list will not change -/
theorem d_frzE {Φ : List α → List Own → Prop} (h : DW F K B Γ O e rAdr fun q O1 => ∃ xs O2, O1 = ⟨q, oLst ra, xs⟩ :: O2 ∧ q ∉ B.M ∧ Φ xs O2) : DW F K B Γ O e (rLst ra) Φ := by
  intro σ G H W Q q
  refine h σ G H W Q fun p O1 v G1 H1 ⟨xs, O2, e1, hM, kk⟩ W1 e2 r => ?_
  subst e1
  obtain ⟨o, ⟨ws, h1, h2⟩, W2, e3⟩ := W1.frz hM
  subst h1
  exact q xs O2 v _ H1 kk W2 (e2.trans e3) ⟨p, ws, r, upd_same, h2.mono fun _ _ z => ra.mono e3 z⟩
end

/-! ### promises -/
/-- a def's promise: from x (with pre), its own objects own x, it gives y and leaves own objects O' (with post) -/
def spM {α β : Type} (K : Fg) (T : List Addr) (ra : RpF α) (pre : α → Prop) (own : α → List Own) (r : Rp β) (post : α → β → List Own → Prop) : Sp := fun vs H Q _ => ∃ G x, Ex G H ∧ (∀ P ∈ T, Tb H P ∧ G P = none) ∧ ra.rep K G vs x ∧ pre x ∧
  (∀ w ∈ own x, (∃ o, H w.a = some o ∧ w.r.rep K G o w.x) ∧ G w.a = none ∧ w.a ∉ T) ∧ ((own x).map (·.a)).Nodup ∧
  ∀ v y O' G' H', Stp T ((own x).map (·.a)) G H G' H' → (∀ w ∈ O', (∃ o, H' w.a = some o ∧ w.r.rep K G' o w.x) ∧ G' w.a = none ∧ w.a ∉ T ∧ (H w.a = none ∨ w.a ∈ (own x).map (·.a))) → (O'.map (·.a)).Nodup → r.rep K G' v y → post x y O' → Q v H'
section
variable {K : Fg} {B : Bs} {Γ : Gm} {O : List Own} {α β : Type} {ra : RpF α} {rb : Rp β} {pre : α → Prop} {own : α → List Own} {post : α → β → List Own → Prop} {T : List Addr}
theorem Stp.tsub {T T' M : List Addr} {G H G' H' : Hp} (a : Stp T M G H G' H') (h : ∀ P ∈ T, P ∈ T') (hm : ∀ P ∈ M, P ∉ T') : Stp T' M G H G' H' :=
  ⟨a.sub, a.g, fun c o q t n => a.h c o q (fun z => t (h c z)) n, a.th, a.fr, fun P hP q => by
    by_cases hT : P ∈ T
    · exact a.tab P hT q
    · obtain ⟨ps, h1, h2⟩ := q
      exact ⟨ps, a.h P _ h1 hT (fun z => hm P z hP), h2⟩⟩
/-- a promise is asked: own x and R are the own objects that stand; behind it O' and R -/
theorem sw_m {x : α} {Φ : β → List Own → Prop} (R : List Own) (hp : pre x) (hO : ∀ w ∈ own x ++ R, w ∈ O) (hn : (O.map (·.a)).Nodup → ((own x ++ R).map (·.a)).Nodup) (h : ∀ y O', post x y O' → Φ y (O' ++ R))
    (hT : ∀ P ∈ T, P ∈ B.T := by first | exact fun _ h => h | (intro _ h; cases h)) : SW K B Γ O (spM K T ra pre own rb post) [] ra x rb Φ := by
  intro σ G H vs W rv Q q
  have W' : Ws K B Γ (own x ++ R) σ G H := W.perm hO hn
  have nd' := W'.nd
  rw [List.map_append] at nd'
  refine ⟨G, x, W.sub, fun P hP => W.tab P (hT P hP), by rw [List.append_nil]; exact rv, hp, fun w hw => ?_, (List.nodup_append.mp nd').1, fun v y O' G' H' s hO' hn' r hpost => ?_⟩
  · obtain ⟨h1, h2, h3, _⟩ := W'.own w (List.mem_append_left _ hw)
    exact ⟨h1, h2, fun z => h3 (hT _ z)⟩
  · have hM : ∀ c ∈ (own x).map (·.a), (c ∈ B.M ∨ B.H0 c = none) ∧ c ∉ B.T := fun c hc => by
      obtain ⟨w, hw, e⟩ := List.mem_map.mp hc
      obtain ⟨_, _, h3, h4⟩ := W'.own w (List.mem_append_left _ hw)
      rw [← e]
      exact ⟨h4.symm, h3⟩
    have s2 := s.tsub hT fun P hP => (hM P hP).2
    refine q y (O' ++ R) v G' H' (h y O' hpost) ⟨W.st.trans s2 fun c hc => (hM c hc).1, fun P hP => ⟨s2.tab P hP (W.tab P hP).1, ?_⟩, fun g hg => (W.bs g hg).trans s.g, W.env.mono s.g, fun w hw => ?_, ?_, W.mh⟩ s.g r
    · cases e : G' P with
      | none => rfl
      | some o =>
        have z := s.fr P (W.tab P hP).2 (by rw [e]; simp)
        obtain ⟨⟨ps, h1, _⟩, _⟩ := W.tab P hP
        rw [h1] at z
        cases z
    · rcases List.mem_append.mp hw with z | z
      · obtain ⟨h1, h2, h3, h4⟩ := hO' w z
        refine ⟨h1, h2, fun hw' => ?_, ?_⟩
        · by_cases hT' : w.a ∈ T
          · exact h3 hT'
          · rcases h4 with h4 | h4
            · obtain ⟨⟨ps, g1, _⟩, _⟩ := W.tab _ hw'
              rw [g1] at h4
              cases h4
            · exact (hM _ h4).2 hw'
        · rcases h4 with h4 | h4
          · exact .inl (W.free h4)
          · exact (hM _ h4).1.symm
      · obtain ⟨⟨o, h1, h2⟩, h3, h4, h5⟩ := W'.own w (List.mem_append_right _ z)
        have nM : w.a ∉ (own x).map (·.a) := fun c => (List.nodup_append.mp nd').2.2 _ c _ (List.mem_map.mpr ⟨w, z, rfl⟩) rfl
        refine ⟨⟨o, s2.h _ _ h1 h4 nM, w.r.mono s.g h2⟩, ?_, h4, h5⟩
        cases e : G' w.a with
        | none => rfl
        | some u =>
          have z := s.fr _ h3 (by rw [e]; simp)
          rw [h1] at z
          cases z
    · rw [List.map_append]
      refine List.nodup_append.mpr ⟨hn', (List.nodup_append.mp nd').2.1, fun c hc d hd e => ?_⟩
      subst e
      obtain ⟨w, hw, ew⟩ := List.mem_map.mp hc
      obtain ⟨w2, hw2, ew2⟩ := List.mem_map.mp hd
      obtain ⟨_, _, _, h4⟩ := hO' w hw
      obtain ⟨⟨o, h1, _⟩, _⟩ := W'.own w2 (List.mem_append_right _ hw2)
      rw [ew2, ← ew] at h1
      rcases h4 with h4 | h4
      · rw [h1] at h4
        cases h4
      · rw [ew] at h4
        exact (List.nodup_append.mp nd').2.2 c h4 c hd rfl
/-- the slots of the arguments -/
class Args {α : Type} (f : RpF α) (g : outParam (α → Gm)) : Prop where
  env : ∀ {K : Fg} {G : Hp} {vs : List V} {x : α} {m : Nat}, f.rep K G vs x → EnvR K G (vs.map some ++ List.replicate m none) (g x ++ List.replicate m none)
theorem env_nones {K : Fg} {G : Hp} : ∀ m : Nat, EnvR K G (List.replicate m none) (List.replicate m none)
  | 0 => trivial
  | m + 1 => env_nones m
instance argsNil : Args fNil (fun _ => []) := ⟨fun {K G vs x m} h => by
  rw [show vs = [] from h]
  exact env_nones m⟩
instance argsOne {r : Rp α} : Args (fOne r) (fun x => [some ⟨r, x⟩]) := ⟨fun {K G vs x m} ⟨v, h, q⟩ => by
  subst h
  exact ⟨⟨v, rfl, q⟩, env_nones m⟩⟩
instance argsCons {r : Rp α} {f : RpF β} {g : β → Gm} [h : Args f g] : Args (fCons r f) (fun x => some ⟨r, x.1⟩ :: g x.2) := ⟨fun {K G vs x m} ⟨v, ws, e, q, z⟩ => by
  subst e
  exact ⟨⟨v, rfl, q⟩, h.env z⟩⟩
/-- the context of a def's body -/
abbrev Xf (P : Program) (w : World) (K : Fg) (mg : Str → Option Value) (base : Heap) (N : List Str) (qual : Str) (st : Stmt) (f : Addr) (cdv : Value) (A : Around) (outer : List Env) (s : Shared) (H : Hp) (E : XK) : Cx :=
  (cxOf CX0 P w K mg base N qual (defScope st) f cdv A outer s H E).nox
/-- THE RULE: a def keeps its promise -/
theorem fn_m {P : Program} {w : World} {mg : Str → Option Value} {base : Heap} {x qual : Str} {st : Stmt} {f : Addr} {fd : FuncData} {N ps : List Str} {k m : Nat} {g : α → Gm} [hl : Len ra m] [ha : Args ra g]
    (F : Fun K x qual st f fd) (S : FnScope N ps (defScope st)) (T : List Addr)
    (h : ∀ (cdv : Value) (A : Around) (outer : List Env) (s : Shared) (G H : Hp) (E : XK) (x : α) (Q : VK), Fam (Us (Xf P w K mg base N qual st f cdv A outer s H E)) P w K mg base k → pre x →
      (∀ {Γ : Gm} {O' : List Own} {y : β}, post x y O' → RT K ⟨T, (own x).map (·.a), G, H, []⟩ Γ O' rb y { nx := fun _ H' => Q .non H', rt := Q }) →
      DS (Xf P w K mg base N qual st f cdv A outer s H E) K ⟨T, (own x).map (·.a), G, H, []⟩ (g x ++ List.replicate (N.length - m) none) (own x) (defBody st) { nx := fun _ H' => Q .non H', rt := Q }) (hm : m = ps.length := by rfl) :
    FnOk P w K mg base CX0 (k + 1) f fd ps (spM K T ra pre own rb post) := by
  refine F.ok S (fun vs H Q E ⟨G, x, _, _, r, _⟩ => by rw [hl.len r]; exact hm) fun cdv A outer s H vs Q E hr ⟨G, x, sub, tab, r, hp, ho, hn, q⟩ => ?_
  have fam : Fam (Us (Xf P w K mg base N qual st f cdv A outer s H E)) P w K mg base k := ⟨fun _ => rfl, fun _ => rfl, fun _ => rfl, fun _ => rfl, fun _ => rfl, fun _ => hr, fun _ => rfl, fun _ => S.nd⟩
  have hx := h cdv A outer s G H E x Q fam hp (fun {Γ O' y} hpost v σ G' H' W rv => q v y O' G' H' W.st (fun w hw => let ⟨a, b, c, d⟩ := W.own w hw; ⟨a, b, c, d⟩) W.nd rv hpost)
  refine hx (L2.start N vs) G H ⟨Stp.refl sub, tab, fun _ z => absurd z (by simp), ?_, fun w hw => ?_, hn, fun c hc => ?_⟩
  · have e := ha.env (m := N.length - m) r
    unfold L2.start
    rw [hl.len r]
    exact e
  · obtain ⟨a, b, c⟩ := ho w hw
    exact ⟨a, b, c, .inr (List.mem_map.mpr ⟨w, hw, rfl⟩)⟩
  · obtain ⟨w, hw, e⟩ := List.mem_map.mp hc
    obtain ⟨⟨o, a, _⟩, _⟩ := ho w hw
    show H c ≠ none
    rw [← e, a]
    simp
/-- a promise that changes nothing -/
abbrev sp0 (K : Fg) (T : List Addr) (ra : RpF α) (pre : α → Prop) (r : Rp β) (post : α → β → Prop) : Sp := spM K T ra pre (fun _ => []) r fun x y O' => O' = [] ∧ post x y
theorem sw_0 {x : α} {post : α → β → Prop} {Φ : β → List Own → Prop} (hp : pre x) (h : ∀ y, post x y → Φ y O) (hT : ∀ P ∈ T, P ∈ B.T := by first | exact fun _ h => h | (intro _ h; cases h)) : SW K B Γ O (sp0 K T ra pre rb post) [] ra x rb Φ :=
  sw_m O hp (fun w hw => hw) (fun z => z) (fun y O' ⟨e, p⟩ => by subst e; exact h y p) hT
end
/-! ### own lists that are done -/
section
variable {X : Cx} {K : Fg} {B : Bs} {Γ Γ' : Gm} {O O' : List Own} {α β : Type} {ra : Rp α} {D : Ends} {rest : List Stmt}
theorem rt_frz {q : Addr} {xs : List α} (hM : q ∉ B.M) (h : RT K B Γ O (rLst ra) xs D) : RT K B Γ (⟨q, oLst ra, xs⟩ :: O) rAdr q D := fun v σ G H W r => by
  obtain ⟨o, ⟨ws, h1, h2⟩, W2, e⟩ := W.frz hM
  subst h1
  exact h v σ _ H W2 ⟨q, ws, r, upd_same, h2.mono fun _ _ z => ra.mono e z⟩
theorem s_frz (i : Nat) {q : Addr} {xs : List α} {f : Option Slot → Gm} [hA : At Γ i rAdr q] [hg : SetG Γ i f] (hM : q ∉ B.M) (h : DS X K B (f (some ⟨rLst ra, xs⟩)) O rest D) : DS X K B Γ (⟨q, oLst ra, xs⟩ :: O) rest D := fun σ G H W => by
  obtain ⟨o, ⟨ws, h1, h2⟩, W2, e⟩ := W.frz hM
  subst h1
  obtain ⟨u, h3, h4⟩ := W2.env.get hA.get
  have W3 := W2.set (s := ⟨rLst ra, xs⟩) i (u := u) ⟨q, ws, h4, upd_same, h2.mono fun _ _ z => ra.mono e z⟩
  have e2 : σ.set i (some u) = σ := by
    refine List.ext_getElem? fun j => ?_
    by_cases hj : i = j
    · subst hj
      rw [List.getElem?_set_self (List.getElem?_eq_some_iff.mp h3).1, h3]
    · rw [List.getElem?_set_ne hj]
  rw [e2, ← hg.eq] at W3
  exact h σ _ H W3
end
end Sk


set_option Elab.async false
set_option linter.all false
set_option maxRecDepth 100000
set_option maxHeartbeats 4100000
/-! Sk5: dicts by written keys; what an own object hides. -/
namespace Sk
open PySem L2 Evl

/-! ### dicts whose keys are written texts -/
abbrev zipK (ns : List Str) (vs : List V) : List (Key × V) := (ns.map Sum.inr).zip vs
theorem zip_val {k : Str} : ∀ {ns : List Str} {vs : List V} {i : Nat}, ns.Nodup → ns[i]? = some k → valV (zipK ns vs) (Sum.inr k) = vs[i]?
  | [], _, _, _, e => by simp at e
  | n :: ns, [], i, _, _ => by
    show valV ([] : List (Key × V)) _ = _
    rw [valV_nil]
    simp
  | n :: ns, v :: vs, 0, h, e => by
    have e' : n = k := by simpa using e
    subst e'
    show valV ((Sum.inr n, v) :: zipK ns vs) _ = _
    rw [valV_pos rfl]
    rfl
  | n :: ns, v :: vs, i + 1, h, e => by
    have e' : ns[i]? = some k := by simpa using e
    have ne : ¬ (Sum.inr n : Key) = Sum.inr k := fun z => (List.nodup_cons.mp h).1 (by
      have z' : n = k := Sum.inr.inj z
      rw [z']
      exact List.mem_of_getElem? e')
    show valV ((Sum.inr n, v) :: zipK ns vs) _ = _
    rw [valV_neg ne, zip_val (List.nodup_cons.mp h).2 e']
    simp
theorem zip_mem {k : Str} {i : Nat} : ∀ {ns : List Str} {vs : List V}, ns[i]? = some k → i < vs.length → ∃ y ∈ zipK ns vs, y.1 = Sum.inr k := fun {ns vs} e h => by
  refine ⟨(Sum.inr k, vs[i]), ?_, rfl⟩
  refine List.mem_of_getElem? (i := i) ?_
  rw [List.getElem?_zip_eq_some]
  exact ⟨by rw [List.getElem?_map, e]; rfl, List.getElem?_eq_getElem h⟩
theorem zip_put {k : Str} {y : V} : ∀ {ns : List Str} {vs : List V} {i : Nat}, ns.Nodup → ns[i]? = some k → i < vs.length → putK (zipK ns vs) (Sum.inr k) y = zipK ns (vs.set i y) := by
  intro ns vs i h e hi
  have hany : ((zipK ns vs).any fun kv => decide (kv.1 = (Sum.inr k : Key))) = true := by
    obtain ⟨p, hp, e1⟩ := zip_mem (vs := vs) e hi
    exact List.any_eq_true.mpr ⟨p, hp, decide_eq_true e1⟩
  unfold putK
  rw [if_pos hany]
  clear hany
  induction ns generalizing vs i with
  | nil => simp at e
  | cons n ns ih =>
    cases vs with
    | nil => simp at hi
    | cons v vs =>
      cases i with
      | zero =>
        have e' : n = k := by simpa using e
        subst e'
        show (if (Sum.inr n : Key) = Sum.inr n then _ else _) :: List.map _ (zipK ns vs) = (Sum.inr n, y) :: zipK ns vs
        rw [if_pos rfl]
        refine congrArg _ ?_
        refine (List.map_congr_left fun p hp => ?_).trans (List.map_id _)
        have hk : p.1 ∈ ns.map Sum.inr := (List.of_mem_zip (show (p.1, p.2) ∈ _ from hp)).1
        obtain ⟨m, hm, em⟩ := List.mem_map.mp hk
        have ne : ¬ p.1 = (Sum.inr n : Key) := fun z => (List.nodup_cons.mp h).1 (by
          have z' : m = n := Sum.inr.inj (em.trans z)
          rw [← z']
          exact hm)
        rw [if_neg ne]
        rfl
      | succ i =>
        have e' : ns[i]? = some k := by simpa using e
        have ne : ¬ (Sum.inr n : Key) = Sum.inr k := fun z => (List.nodup_cons.mp h).1 (by
          have z' : n = k := Sum.inr.inj z
          rw [z']
          exact List.mem_of_getElem? e')
        show (if (Sum.inr n : Key) = Sum.inr k then _ else _) :: List.map _ (zipK ns vs) = (Sum.inr n, v) :: zipK ns (vs.set i y)
        rw [if_neg ne]
        exact congrArg _ (ih (List.nodup_cons.mp h).2 e' (by simpa using hi))
def rRec {α : Type} (ns : List Str) (f : RpF α) : Rp α := ⟨fun K G v x => ∃ a vs, v = .ref a ∧ G a = some (.dK (zipK ns vs)) ∧ f.rep K G vs x, fun e ⟨a, vs, h1, h2, h3⟩ => ⟨a, vs, h1, e _ _ h2, f.mono e h3⟩⟩
def oRec {α : Type} (ns : List Str) (f : RpF α) : Ow α := ⟨fun K G o x => ∃ vs, o = .dK (zipK ns vs) ∧ f.rep K G vs x, fun e ⟨vs, h1, h2⟩ => ⟨vs, h1, f.mono e h2⟩⟩
/-- the i-th of unlike things, set -/
class FSet {α : Type} (f : RpF α) (i : Nat) {β : outParam Type} (r : outParam (Rp β)) (g : outParam (α → β → α)) : Prop where
  set : ∀ {K : Fg} {G : Hp} {vs : List V} {x : α} {v : V} {y : β}, f.rep K G vs x → r.rep K G v y → f.rep K G (vs.set i v) (g x y)
section
variable {α β γ : Type}
instance fset1 {r : Rp α} : FSet (fOne r) 0 r (fun _ y => y) := ⟨fun ⟨v, h, k⟩ q => ⟨_, by rw [h]; rfl, q⟩⟩
instance fset0 {r : Rp α} {f : RpF β} : FSet (fCons r f) 0 r (fun x y => (y, x.2)) := ⟨fun ⟨v, ws, h, k, z⟩ q => ⟨_, ws, by rw [h]; rfl, q, z⟩⟩
instance fsetS {r : Rp α} {f : RpF β} {i : Nat} {r' : Rp γ} {g : β → γ → β} [h : FSet f i r' g] : FSet (fCons r f) (i + 1) r' (fun x y => (x.1, g x.2 y)) := ⟨fun ⟨v, ws, e, k, z⟩ q => ⟨v, _, by rw [e]; rfl, k, h.set z q⟩⟩
variable {ι : Type} {F : ι → Cx} {K : Fg} {B : Bs} {Γ : Gm} {O : List Own} {ra : Rp α} {rb : Rp β} {e o : Expr} {p pos pos' pos2 : Pos} {j : Nat} {ns : List Str} {fr : RpF α}
variable {P : Program} {w : World} {mg : Str → Option Value} {base : Heap} {k : Nat}
/-- d['key'], an own dict, a dict -/
theorem d_recO [fam : Fam F P w K mg base k] {key : Str} (i : Nat) {r : Rp β} {g : α → β} [hf : FAt fr i r g] {Φ : β → List Own → Prop} (hk : ns[i]? = some key) (hn : ns.Nodup)
    (h : DW F K B Γ O o rAdr fun q O1 => ∃ x f, OwnAt O1 q (oRec ns fr) x f ∧ Φ (g x) O1) : DW F K B Γ O (.Subscript o (.Constant (.str key) j pos') pos) r Φ := by
  intro σ G H W Q q
  refine ⟨tDGet (WE F o) (tC (.str key)), fun i => pe_dget (by have := (fam.rm i).units; omega) (WE.pe i) pe_str (fun _ _ => rfl), ?_⟩
  refine h σ G H W _ fun c O1 v G1 H1 ⟨x, f, hO, kk⟩ W1 e1 r1 => ?_
  obtain ⟨ob, h1, vs, h2, h3⟩ := W1.ownO hO
  subst h2
  obtain ⟨u, h4, h5⟩ := hf.get h3
  refine ⟨c, u, r1, ?_, q _ O1 u G1 H1 kk W1 e1 h5⟩
  have e2 := DGet.k (k := Sum.inr key) h1
  rw [zip_val hn hk, h4] at e2
  exact e2
theorem d_rec [fam : Fam F P w K mg base k] {key : Str} (i : Nat) {r : Rp β} {g : α → β} [hf : FAt fr i r g] {Φ : β → List Own → Prop} (hk : ns[i]? = some key) (hn : ns.Nodup)
    (h : DW F K B Γ O o (rRec ns fr) fun x O1 => Φ (g x) O1) : DW F K B Γ O (.Subscript o (.Constant (.str key) j pos') pos) r Φ := by
  intro σ G H W Q q
  refine ⟨tDGet (WE F o) (tC (.str key)), fun i => pe_dget (by have := (fam.rm i).units; omega) (WE.pe i) pe_str (fun _ _ => rfl), ?_⟩
  refine h σ G H W _ fun x O1 v G1 H1 kk W1 e1 ⟨c, vs, r1, h1, h3⟩ => ?_
  obtain ⟨u, h4, h5⟩ := hf.get h3
  refine ⟨c, u, r1, ?_, q _ O1 u G1 H1 kk W1 e1 h5⟩
  have e2 := DGet.k (k := Sum.inr key) (W1.sub _ _ h1)
  rw [zip_val hn hk, h4] at e2
  exact e2
/-- the same, the dict a name's -/
theorem d_recV [fam : Fam F P w K mg base k] {key n : Str} (iv i : Nat) {q : Addr} {x : α} {f : Own → List Own} {r : Rp β} {g : α → β} [hA : At Γ iv rAdr q] [hO : OwnAt O q (oRec ns fr) x f] [hf : FAt fr i r g] {Φ : β → List Own → Prop} (hk : ns[i]? = some key) (hn : ns.Nodup) (kk : Φ (g x) O)
    (hN : ∀ j, (F j).N[iv]? = some n := by intro _; rfl) (hv : ∀ j, Vis (F j).env.scope n := by intro _; first | exact Or.inl rfl | exact Or.inr (Or.inl rfl) | exact Or.inr (Or.inr rfl)) (hd : (n == ("__debug__" : Str)) = false := by decide)
    (hcd : (n == ("__classdict__" : Str)) = false := by decide) : DW F K B Γ O (.Subscript (.Name n pos2) (.Constant (.str key) j pos') pos) r Φ :=
  d_recO i hk hn (d_var iv ⟨x, f, hO, kk⟩ hN hv hd hcd)
theorem d_recP [fam : Fam F P w K mg base k] {key n : Str} (iv i : Nat) {x : α} {r : Rp β} {g : α → β} [hA : At Γ iv (rRec ns fr) x] [hf : FAt fr i r g] {Φ : β → List Own → Prop} (hk : ns[i]? = some key) (hn : ns.Nodup) (kk : Φ (g x) O)
    (hN : ∀ j, (F j).N[iv]? = some n := by intro _; rfl) (hv : ∀ j, Vis (F j).env.scope n := by intro _; first | exact Or.inl rfl | exact Or.inr (Or.inl rfl) | exact Or.inr (Or.inr rfl)) (hd : (n == ("__debug__" : Str)) = false := by decide)
    (hcd : (n == ("__classdict__" : Str)) = false := by decide) : DW F K B Γ O (.Subscript (.Name n pos2) (.Constant (.str key) j pos') pos) r Φ :=
  d_rec i hk hn (d_var iv kk hN hv hd hcd)
/-- d['key'] = e, an own dict that has the key -/
theorem s_recPut {X : Cx} {rest : List Stmt} {D : Ends} [fam : Fam (Us X) P w K mg base k] {key : Str} (i : Nat) {m : Nat} {r : Rp β} {g : α → β → α} [hf : FSet fr i r g] [hl : Len fr m] (hk : ns[i]? = some key) (hn : ns.Nodup)
    (h : DW (Us X) K B Γ O e r fun y O1 => DW (Us X) K B Γ O1 o rAdr fun q O2 => ∃ x f, OwnAt O2 q (oRec ns fr) x f ∧ DS X K B Γ (f ⟨q, oRec ns fr, g x y⟩) rest D)
    (hi : i < m := by decide) (hm : m < 1000 := by decide) (hs : swapsWith e (some (.Subscript o (.Constant (.str key) j pos') pos2)) pos.line X.env = pure false := by rfl) : DS X K B Γ O (.Assign [.Subscript o (.Constant (.str key) j pos') pos2] e pos :: rest) D := by
  intro σ G H W
  refine WSs.cons (ps_dput (td := WE (Us X) o) (ty := tC (.str key)) (tv := WE (Us X) e) (hu_of (fam.rm ())) (WE.pe (F := Us X) ()) pe_str (WE.pe (F := Us X) ()) hs) ?_
  refine h σ G H W _ fun y O1 u G1 H1 k1 W1 e1 r1 => ?_
  refine k1 σ G1 H1 W1 _ fun c O2 v G2 H2 ⟨x, f, hO, kk⟩ W2 e2 r2 => ?_
  obtain ⟨ob, h1, vs, h2, h3⟩ := W2.ownO hO
  subst h2
  have hlen := hl.len h3
  have hz : (zipK ns vs).length < sizeLine := by
    have e3 : (zipK ns vs).length ≤ vs.length := by
      unfold zipK
      rw [List.length_zip]
      exact Nat.min_le_right _ _
    exact Nat.lt_of_le_of_lt e3 (by rw [hlen]; exact small1000 (by omega))
  refine ⟨c, _, r2, DPut.k (k := Sum.inr key) h1 hz, ?_⟩
  refine kk _ _ _ (W2.mutO (h := hO) (r' := oRec ns fr) (x' := g x y) ⟨vs.set i u, ?_, hf.set h3 (r.mono e2 r1)⟩)
  rw [zip_put hn hk (by omega)]
/-- the same, the dict a name's, e changes none of the own objects -/
theorem s_recPutV {X : Cx} {rest : List Stmt} {D : Ends} [fam : Fam (Us X) P w K mg base k] {key n : Str} (iv i : Nat) {m : Nat} {q : Addr} {x : α} {f : Own → List Own} {r : Rp β} {g : α → β → α} [hA : At Γ iv rAdr q] [hO : OwnAt O q (oRec ns fr) x f] [hf : FSet fr i r g] [hl : Len fr m] (hk : ns[i]? = some key) (hn : ns.Nodup)
    (h : DW (Us X) K B Γ O e r fun y O1 => O1 = O ∧ DS X K B Γ (f ⟨q, oRec ns fr, g x y⟩) rest D)
    (hN : X.N[iv]? = some n := by rfl) (hv : Vis X.env.scope n := by first | exact Or.inl rfl | exact Or.inr (Or.inl rfl) | exact Or.inr (Or.inr rfl)) (hd : (n == ("__debug__" : Str)) = false := by decide) (hcd : (n == ("__classdict__" : Str)) = false := by decide)
    (hi : i < m := by decide) (hm : m < 1000 := by decide) (hs : swapsWith e (some (.Subscript (.Name n p) (.Constant (.str key) j pos') pos2)) pos.line X.env = pure false := by rfl) : DS X K B Γ O (.Assign [.Subscript (.Name n p) (.Constant (.str key) j pos') pos2] e pos :: rest) D := by
  refine s_recPut (fr := fr) (m := m) (g := g) i hk hn (d_mono h fun y O1 ⟨e1, kk⟩ => ?_) hi hm hs
  subst e1
  exact d_var iv ⟨x, f, hO, kk⟩ (fun _ => hN) (fun _ => hv) hd hcd
end

/-! ### hidden states -/
def oEx {α : Type} (r : Ow α) (good : α → Prop) : Ow Unit := ⟨fun K G o _ => ∃ x, good x ∧ r.rep K G o x, fun e ⟨x, h1, h2⟩ => ⟨x, h1, r.mono e h2⟩⟩
section
variable {X : Cx} {K : Fg} {B : Bs} {Γ Γ' : Gm} {O O' : List Own} {α β γ : Type} {ra : Rp α} {D : Ends} {rest : List Stmt} {r : Ow β} {good : β → Prop}
theorem s_open {q : Addr} (h : ∀ x, good x → DS X K B Γ (⟨q, r, x⟩ :: O) rest D) : DS X K B Γ (⟨q, oEx r good, ()⟩ :: O) rest D := fun σ G H W => by
  obtain ⟨⟨o, h1, x, h2, h3⟩, h4, h5, h6⟩ := W.own _ List.mem_cons_self
  refine h x h2 σ G H ⟨W.st, W.tab, W.bs, W.env, fun v hv => ?_, W.nd, W.mh⟩
  rcases List.mem_cons.mp hv with z | z
  · subst z
    exact ⟨⟨o, h1, h3⟩, h4, h5, h6⟩
  · exact W.own v (List.mem_cons_of_mem _ z)
theorem Ws.close {q : Addr} {x : β} {σ : St} {G H : Hp} (hx : good x) (W : Ws K B Γ (⟨q, r, x⟩ :: O) σ G H) : Ws K B Γ (⟨q, oEx r good, ()⟩ :: O) σ G H :=
  ⟨W.st, W.tab, W.bs, W.env, fun v hv => by
    rcases List.mem_cons.mp hv with z | z
    · subst z
      obtain ⟨⟨o, h1, h3⟩, h4, h5, h6⟩ := W.own _ List.mem_cons_self
      exact ⟨⟨o, h1, x, hx, h3⟩, h4, h5, h6⟩
    · exact W.own v (List.mem_cons_of_mem _ z), W.nd, W.mh⟩
theorem rt_close {q : Addr} {x : β} {y : α} (hx : good x) (h : RT K B Γ (⟨q, oEx r good, ()⟩ :: O) ra y D) : RT K B Γ (⟨q, r, x⟩ :: O) ra y D := fun v σ G H W => h v σ G H (W.close hx)
theorem s_close {q : Addr} {x : β} (hx : good x) (h : DS X K B Γ (⟨q, oEx r good, ()⟩ :: O) rest D) : DS X K B Γ (⟨q, r, x⟩ :: O) rest D := fun σ G H W => h σ G H (W.close hx)
end

/-! ### built-ins by name -/
theorem bt_abs : bootBuiltins "abs" = some (.builtin "abs") := by decide +kernel
theorem bt_len : bootBuiltins "len" = some (.builtin "len") := by decide +kernel
theorem bt_max : bootBuiltins "max" = some (.builtin "max") := by decide +kernel
theorem bt_min : bootBuiltins "min" = some (.builtin "min") := by decide +kernel
theorem bt_sum : bootBuiltins "sum" = some (.builtin "sum") := by decide +kernel
theorem bt_isi : bootBuiltins "isinstance" = some (.builtin "isinstance") := by decide +kernel
theorem bt_int : bootBuiltins "int" = some (.type "int") := by decide +kernel
theorem bt_bool : bootBuiltins "bool" = some (.type "bool") := by decide +kernel
theorem bt_str : bootBuiltins "str" = some (.type "str") := by decide +kernel
theorem bt_list : bootBuiltins "list" = some (.type "list") := by decide +kernel
theorem bt_tuple : bootBuiltins "tuple" = some (.type "tuple") := by decide +kernel
theorem bt_dict : bootBuiltins "dict" = some (.type "dict") := by decide +kernel
end Sk


set_option Elab.async false
set_option linter.all false
set_option maxRecDepth 100000
set_option maxHeartbeats 4100000
/-! Sk6: pure tests, pure comprehensions, promises by a function. -/
namespace Sk
open PySem L2 Evl
section
variable {ι : Type} {F : ι → Cx} {K : Fg} {B : Bs} {Γ : Gm} {O : List Own} {α β γ : Type} {ra : Rp α} {rb : Rp β} {rc : Rp γ} {a b c e elt tg iter : Expr} {es ifs : List Expr} {pos p : Pos} {n : Str} {scope : Scope}
variable {P : Program} {w : World} {mg : Str → Option Value} {base : Heap} {k : Nat}
/-! tests whose answer is known -/
theorem dt_notP {x : Bool} (h : DT F K B Γ O a fun t O' => t = x ∧ O' = O) : DT F K B Γ O (.UnaryOp .Not a pos) fun t O' => t = (!x) ∧ O' = O :=
  dt_not (dt_mono h fun t O' ⟨e1, e2⟩ => ⟨by rw [e1], e2⟩)
theorem dp_andP {x y : Bool} (h : DT F K B Γ O a fun t O' => t = x ∧ O' = O) (h2 : x = true → DP F K B Γ O (.BoolOp .And (b :: es) pos) fun t O' => t = y ∧ O' = O) : DP F K B Γ O (.BoolOp .And (a :: b :: es) pos) fun t O' => t = (x && y) ∧ O' = O := by
  refine dp_and (dt_mono h fun t O' ⟨e1, e2⟩ => ?_)
  subst e1 e2
  cases t with
  | true => exact ⟨fun _ => h2 rfl, fun z => Bool.noConfusion z⟩
  | false => exact ⟨fun z => Bool.noConfusion z, fun _ => ⟨rfl, rfl⟩⟩
theorem dp_orP {x y : Bool} (h : DT F K B Γ O a fun t O' => t = x ∧ O' = O) (h2 : x = false → DP F K B Γ O (.BoolOp .Or (b :: es) pos) fun t O' => t = y ∧ O' = O) : DP F K B Γ O (.BoolOp .Or (a :: b :: es) pos) fun t O' => t = (x || y) ∧ O' = O := by
  refine dp_or (dt_mono h fun t O' ⟨e1, e2⟩ => ?_)
  subst e1 e2
  cases t with
  | true => exact ⟨fun z => Bool.noConfusion z, fun _ => ⟨rfl, rfl⟩⟩
  | false => exact ⟨fun _ => h2 rfl, fun z => Bool.noConfusion z⟩
theorem d_notP {x : Bool} (h : DW F K B Γ O a rBool fun t O' => t = x ∧ O' = O) : DW F K B Γ O (.UnaryOp .Not a pos) rBool fun t O' => t = (!x) ∧ O' = O :=
  d_not (d_mono h fun t O' ⟨e1, e2⟩ => ⟨by rw [e1], e2⟩)
theorem d_andP {x y : Bool} (h : DW F K B Γ O a rBool fun t O' => t = x ∧ O' = O) (h2 : x = true → DW F K B Γ O (.BoolOp .And (b :: es) pos) rBool fun t O' => t = y ∧ O' = O) : DW F K B Γ O (.BoolOp .And (a :: b :: es) pos) rBool fun t O' => t = (x && y) ∧ O' = O := by
  refine d_and (d_mono h fun t O' ⟨e1, e2⟩ => ?_)
  subst e1 e2
  cases t with
  | true => exact ⟨fun _ => h2 rfl, fun z => Bool.noConfusion z⟩
  | false => exact ⟨fun z => Bool.noConfusion z, fun _ => ⟨rfl, rfl⟩⟩
theorem d_orP {x y : Bool} (h : DW F K B Γ O a rBool fun t O' => t = x ∧ O' = O) (h2 : x = false → DW F K B Γ O (.BoolOp .Or (b :: es) pos) rBool fun t O' => t = y ∧ O' = O) : DW F K B Γ O (.BoolOp .Or (a :: b :: es) pos) rBool fun t O' => t = (x || y) ∧ O' = O := by
  refine d_or (d_mono h fun t O' ⟨e1, e2⟩ => ?_)
  subst e1 e2
  cases t with
  | true => exact ⟨fun z => Bool.noConfusion z, fun _ => ⟨rfl, rfl⟩⟩
  | false => exact ⟨fun _ => h2 rfl, fun z => Bool.noConfusion z⟩
theorem dt_chainP {op op' : CmpOp} {x y : Bool} (h : DW F K B Γ O a ra fun u O1 => DW F K B Γ O1 b rb fun v O2 => OW F K B Γ O2 (compareOp op) ra rb u v rBool fun z O3 =>
      z = x ∧ O3 = O ∧ (x = true → DW F K B Γ O c rc fun q O4 => OW F K B Γ O4 (compareOp op') rb rc v q rBool fun t O' => t = y ∧ O' = O))
    (hm : lastMarks [op, op'] [b, c] = false := by with_unfolding_all rfl) : DT F K B Γ O (.Compare a [op, op'] [b, c] pos) fun t O' => t = (x && y) ∧ O' = O := by
  refine dt_chain (rb := rb) (rc := rc) (d_mono h fun u O1 h1 => d_mono h1 fun v O2 h2 => fun σ G H vv ww W r1 r2 Q q => h2 σ G H vv ww W r1 r2 Q fun z O3 u' G' H' ⟨e1, e2, e3⟩ W' ex r => q z O3 u' G' H' ?_ W' ex r) hm
  subst e1 e2
  cases z with
  | true => exact ⟨fun _ => e3 rfl, fun z => Bool.noConfusion z⟩
  | false => exact ⟨fun z => Bool.noConfusion z, fun _ => ⟨rfl, rfl⟩⟩
theorem d_chainP {op op' : CmpOp} {x y : Bool} (h : DW F K B Γ O a ra fun u O1 => DW F K B Γ O1 b rb fun v O2 => OW F K B Γ O2 (compareOp op) ra rb u v rBool fun z O3 =>
      z = x ∧ O3 = O ∧ (x = true → DW F K B Γ O c rc fun q O4 => OW F K B Γ O4 (compareOp op') rb rc v q rBool fun t O' => t = y ∧ O' = O))
    (hm : lastMarks [op, op'] [b, c] = false := by with_unfolding_all rfl) : DW F K B Γ O (.Compare a [op, op'] [b, c] pos) rBool fun t O' => t = (x && y) ∧ O' = O := by
  refine d_chain (rb := rb) (rc := rc) (d_mono h fun u O1 h1 => d_mono h1 fun v O2 h2 => fun σ G H vv ww W r1 r2 Q q => h2 σ G H vv ww W r1 r2 Q fun z O3 u' G' H' ⟨e1, e2, e3⟩ W' ex r => q z O3 u' G' H' ?_ W' ex r) hm
  subst e1 e2
  cases z with
  | true => exact ⟨fun _ => e3 rfl, fun z => Bool.noConfusion z⟩
  | false => exact ⟨fun z => Bool.noConfusion z, fun _ => ⟨rfl, rfl⟩⟩
/-- a known value goes on -/
theorem d_then {x : α} {Φ : α → List Own → Prop} (h : DW F K B Γ O e ra fun t O' => t = x ∧ O' = O) (q : Φ x O) : DW F K B Γ O e ra Φ := d_mono h fun t O' ⟨e1, e2⟩ => by
  subst e1 e2
  exact q
theorem dt_then {x : Bool} {Φ : Bool → List Own → Prop} (h : DT F K B Γ O e fun t O' => t = x ∧ O' = O) (q : Φ x O) : DT F K B Γ O e Φ := dt_mono h fun t O' ⟨e1, e2⟩ => by
  subst e1 e2
  exact q
theorem d_iteP {x : Bool} {Φ : α → List Own → Prop} (h : DT F K B Γ O c fun t O' => t = x ∧ O' = O) (h1 : x = true → DW F K B Γ O a ra Φ) (h2 : x = false → DW F K B Γ O b ra Φ) : DW F K B Γ O (.IfExp c a b pos) ra Φ :=
  d_ite (dt_then h ⟨h1, h2⟩)
/-! pure comprehensions -/
theorem take_snoc {α : Type} {l : List α} {i : Nat} {x : α} (h : l[i]? = some x) : l.take (i + 1) = l.take i ++ [x] := by
  rw [List.take_add_one, h]
  rfl
theorem d_lcF [fam : Fam F P w K mg base k] (own : List (Str × Nat)) (vs : List Nat) (ok : ∀ i, BlkOk (F i).N (F i).env.scope scope own) {Γ' : Gm} [hw : WipeG Γ vs Γ'] {js : List Nat} {f : α → β} {g : α → Bool} {Φ : List β → List Own → Prop}
    (h : DI F K B Γ O tg iter ra fun xs O1 => O1 = O ∧ xs.length ≤ sizeLine ∧
      (∀ gg D ys x, x ∈ xs → DG (blkF F scope) K (B.push gg) Γ' (⟨D, oLst rb, ys⟩ :: O) tg ra x js fun Γ2 => DTs (blkF F scope) K (B.push gg) Γ2 (⟨D, oLst rb, ys⟩ :: O) ifs fun t O2 =>
        t = g x ∧ O2 = ⟨D, oLst rb, ys⟩ :: O ∧ (g x = true → DW (blkF F scope) K (B.push gg) Γ2 (⟨D, oLst rb, ys⟩ :: O) elt rb fun y O3 => y = f x ∧ O3 = ⟨D, oLst rb, ys⟩ :: O)) ∧
      Φ ((xs.filter g).map f) O)
    (hv : own.map (·.2) = vs := by rfl) (hjs : ∀ j ∈ js, j ∈ vs := by decide) (hs : ∀ i x, foldedSetIterable iter (F i).env x = pure x := by intro _ _; rfl) :
    DW F K B Γ O (.ListComp elt [⟨tg, iter, ifs, 0⟩] scope pos) (rLst rb) Φ := by
  refine d_frzE (d_lcO (ra := ra) (rb := rb) own vs ok ?_ hv hjs hs)
  intro σ G H W R q
  refine h σ G H W R fun xs J O1 G1 H1 ⟨e1, hl, ht, hd⟩ gv W1 ee => q xs J O1 G1 H1 ⟨Unit, fun i ys _ => i ≤ xs.length ∧ ys = ((xs.take i).filter g).map f, fun _ => O, ⟨(), ⟨Nat.zero_le _, rfl⟩, e1⟩, fun gg D i x ys d hx ⟨hi, hy⟩ => ?_, fun D ys d hM ⟨_, hy⟩ => ?_⟩ gv W1 ee
  · have hlt : i < xs.length := (List.getElem?_eq_some_iff.mp hx).1
    have hmem := List.mem_of_getElem? hx
    have hlen : ys.length ≤ i := by
      rw [hy, List.length_map]
      refine Nat.le_trans (List.length_filter_le _ _) ?_
      rw [List.length_take]
      exact Nat.min_le_left _ _
    intro σ2 G2 H2 v W2 r2 Q2 q2
    refine ht gg D ys x hmem σ2 G2 H2 v W2 r2 Q2 fun Γ2 σ' p W' wp => q2 Γ2 σ' (fun σ3 G3 H3 W3 Q3 q3 => p σ3 G3 H3 W3 Q3 fun t O2 G4 H4 ⟨p1, p2, p3⟩ W4 e4 => q3 t O2 G4 H4 ?_ W4 e4) W' wp
    subst p1 p2
    refine ⟨fun ht => d_mono (p3 ht) fun y O3 ⟨z1, z2⟩ => ⟨(), z2, by omega, hlt, ?_⟩, fun ht => ⟨(), rfl, hlt, ?_⟩⟩
    · rw [take_snoc hx, List.filter_append, List.map_append, ← hy, z1]
      congr 1
      simp [ht]
    · rw [take_snoc hx, List.filter_append, List.map_append, ← hy]
      simp [ht]
  · rw [List.take_length] at hy
    subst hy
    exact ⟨_, _, rfl, hM, hd⟩
/-- without a test -/
theorem d_lcP [fam : Fam F P w K mg base k] (own : List (Str × Nat)) (vs : List Nat) (ok : ∀ i, BlkOk (F i).N (F i).env.scope scope own) {Γ' : Gm} [hw : WipeG Γ vs Γ'] {js : List Nat} {f : α → β} {Φ : List β → List Own → Prop}
    (h : DI F K B Γ O tg iter ra fun xs O1 => O1 = O ∧ xs.length ≤ sizeLine ∧
      (∀ gg D ys x, x ∈ xs → DG (blkF F scope) K (B.push gg) Γ' (⟨D, oLst rb, ys⟩ :: O) tg ra x js fun Γ2 =>
        DW (blkF F scope) K (B.push gg) Γ2 (⟨D, oLst rb, ys⟩ :: O) elt rb fun y O3 => y = f x ∧ O3 = ⟨D, oLst rb, ys⟩ :: O) ∧ Φ (xs.map f) O)
    (hv : own.map (·.2) = vs := by rfl) (hjs : ∀ j ∈ js, j ∈ vs := by decide) (hs : ∀ i x, foldedSetIterable iter (F i).env x = pure x := by intro _ _; rfl) :
    DW F K B Γ O (.ListComp elt [⟨tg, iter, [], 0⟩] scope pos) (rLst rb) Φ := by
  refine d_lcF (ra := ra) (f := f) (g := fun _ => true) own vs ok ?_ hv hjs hs
  intro σ G H W R q
  refine h σ G H W R fun xs J O1 G1 H1 ⟨e1, hl, ht, hd⟩ gv W1 ee => q xs J O1 G1 H1 ⟨e1, hl, fun gg D ys x hx σ2 G2 H2 v W2 r2 Q2 q2 => ht gg D ys x hx σ2 G2 H2 v W2 r2 Q2 fun Γ2 σ' p W' wp => q2 Γ2 σ' (dts_nil ⟨rfl, rfl, fun _ => p⟩) W' wp, ?_⟩ gv W1 ee
  have e : xs.filter (fun _ => true) = xs := List.filter_eq_self.mpr fun _ _ => rfl
  rw [e]
  exact hd
end

/-! ### promises by a function; promises that keep their own object -/
section
variable {K : Fg} {B : Bs} {Γ : Gm} {O : List Own} {α β γ : Type} {ra : RpF α} {rb : Rp β} {pre : α → Prop} {T : List Addr}
abbrev spF (K : Fg) (T : List Addr) (ra : RpF α) (pre : α → Prop) (r : Rp β) (f : α → β) : Sp := sp0 K T ra pre r fun x y => y = f x
theorem sw_f {x : α} {f : α → β} {Φ : β → List Own → Prop} (hp : pre x) (h : Φ (f x) O) (hT : ∀ P ∈ T, P ∈ B.T := by first | exact fun _ h => h | (intro _ h; cases h)) : SW K B Γ O (spF K T ra pre rb f) [] ra x rb Φ :=
  sw_0 hp (fun y e => by subst e; exact h) hT
theorem ndm {α : Type} {a : α} {l r : List α} : (l ++ a :: r).Nodup ↔ ([a] ++ (l ++ r)).Nodup := List.perm_middle.nodup_iff
/-- one own object, kept as it is told -/
abbrev sp1 (K : Fg) (T : List Addr) (ra : RpF α) (pre : α → Prop) (own : α → Own) (r : Rp β) (post : α → β → Prop) : Sp := spM K T ra pre (fun x => [own x]) r fun x y O' => O' = [own x] ∧ post x y
theorem sw_1 {x : α} {q : Addr} {δ : Type} {r : Ow δ} {d : δ} {f : Own → List Own} {own : α → Own} {post : α → β → Prop} {Φ : β → List Own → Prop} [ho : OwnAt O q r d f] (hp : pre x) (h : ∀ y, post x y → Φ y O) (e : own x = ⟨q, r, d⟩ := by rfl)
    (hT : ∀ P ∈ T, P ∈ B.T := by first | exact fun _ h => h | (intro _ h; cases h)) : SW K B Γ O (sp1 K T ra pre own rb post) [] ra x rb Φ := by
  obtain ⟨j, h1, _⟩ := ho.at_
  have hl : j < O.length := (List.getElem?_eq_some_iff.mp h1).1
  have hg : O[j] = own x := by
    rw [e]
    exact (List.getElem?_eq_some_iff.mp h1).2
  intro σ G H vs W rv Q q'
  have split : O = O.take j ++ own x :: O.drop (j + 1) := by
    rw [← hg]
    exact (List.take_append_drop j O).symm.trans (by rw [List.drop_eq_getElem_cons hl])
  have perm : ∀ v, v ∈ [own x] ++ (O.take j ++ O.drop (j + 1)) ↔ v ∈ O := fun v => by
    have e2 : v ∈ O ↔ v ∈ O.take j ++ own x :: O.drop (j + 1) := by rw [← split]
    rw [e2]
    simp only [List.mem_append, List.mem_cons, List.not_mem_nil, or_false]
    constructor
    · rintro (z | z | z)
      · exact .inr (.inl z)
      · exact .inl z
      · exact .inr (.inr z)
    · rintro (z | z | z)
      · exact .inr (.inl z)
      · exact .inl z
      · exact .inr (.inr z)
  have nd1 : (O.map (·.a)).Nodup → (([own x] ++ (O.take j ++ O.drop (j + 1))).map (·.a)).Nodup := fun z => by
    have e2 : O.map (·.a) = (O.take j).map (·.a) ++ (own x).a :: (O.drop (j + 1)).map (·.a) := by
      have e3 := congrArg (List.map (·.a)) split
      rw [List.map_append, List.map_cons] at e3
      exact e3
    rw [e2] at z
    rw [List.map_append, List.map_append]
    exact ndm.mp z
  have nd2 : (([own x] ++ (O.take j ++ O.drop (j + 1))).map (·.a)).Nodup → (O.map (·.a)).Nodup := fun z => by
    have e2 : O.map (·.a) = (O.take j).map (·.a) ++ (own x).a :: (O.drop (j + 1)).map (·.a) := by
      have e3 := congrArg (List.map (·.a)) split
      rw [List.map_append, List.map_cons] at e3
      exact e3
    rw [e2]
    rw [List.map_append, List.map_append] at z
    exact ndm.mpr z
  exact sw_m (Φ := fun y O' => Φ y O ∧ O' = [own x] ++ (O.take j ++ O.drop (j + 1))) (O.take j ++ O.drop (j + 1)) hp (fun v hv => (perm v).mp hv) nd1 (fun y O' ⟨e2, p⟩ => ⟨h y p, by rw [e2]⟩) hT σ G H vs W rv Q fun z O' u G' H' ⟨k1, k2⟩ W' e' r' => q' z O u G' H' k1 (by
    subst k2
    exact W'.perm (fun v hv => (perm v).mpr hv) nd2) e' r'
end

/-! ### statements -/
section
variable {X : Cx} {K : Fg} {B : Bs} {Γ Γ' : Gm} {O O' : List Own} {α β : Type} {ra : Rp α} {D D0 : Ends} {e c : Expr} {rest sa sb : List Stmt} {n : Str} {pos p apos : Pos}
variable {P : Program} {w : World} {mg : Str → Option Value} {base : Heap} {k : Nat}
theorem s_ifP {x : Bool} (h : DT (Us X) K B Γ O c fun t O' => t = x ∧ O' = O) (h1 : x = true → DS X K B Γ O sa { D with nx := WSs X rest D }) (h2 : x = false → DS X K B Γ O sb { D with nx := WSs X rest D }) : DS X K B Γ O (.If c sa sb pos :: rest) D :=
  s_if (dt_then h ⟨h1, h2⟩)
/-- wanted less -/
structure EndsLe (D0 D : Ends) : Prop where
  nx : ∀ σ H, D0.nx σ H → D.nx σ H
  rt : ∀ v H, D0.rt v H → D.rt v H
  bk : ∀ σ H, D0.bk σ H → D.bk σ H
  ct : ∀ σ H, D0.ct σ H → D.ct σ H
theorem WSs.mono {st : List Stmt} {σ : St} {H : Hp} (le : EndsLe D0 D) (h : WSs X st D0 σ H) : WSs X st D σ H := by
  obtain ⟨t, p, q⟩ := h
  refine ⟨fun D σ H => ∃ D0, t D0 σ H ∧ EndsLe D0 D, ⟨fun pins s σ H D I ⟨D0, q, le⟩ => thn (p.run pins s σ H D0 I q) fun f s' sp => ?_⟩, D0, q, le⟩
  cases f with
  | next =>
    obtain ⟨σ', H', I', z⟩ := sp
    exact ⟨σ', H', I', le.nx _ _ z⟩
  | brk =>
    obtain ⟨σ', H', I', z⟩ := sp
    exact ⟨σ', H', I', le.bk _ _ z⟩
  | cont =>
    obtain ⟨σ', H', I', z⟩ := sp
    exact ⟨σ', H', I', le.ct _ _ z⟩
  | ret u =>
    obtain ⟨v, σ', H', I', r, z⟩ := sp
    exact ⟨v, σ', H', I', r, le.rt _ _ z⟩
/-- the ways behind an if meet: d with Pv -/
theorem s_ifJ {x : Bool} {δ : Type} (Pv : δ → Prop) (Γf : δ → Gm) (Of : δ → List Own) (h : DT (Us X) K B Γ O c fun t O' => t = x ∧ O' = O) (h1 : x = true → DS X K B Γ O sa { D with nx := LpJ K B Pv Γf Of }) (h2 : x = false → DS X K B Γ O sb { D with nx := LpJ K B Pv Γf Of })
    (h3 : ∀ d, Pv d → DS X K B (Γf d) (Of d) rest D) : DS X K B Γ O (.If c sa sb pos :: rest) D := by
  intro σ G H W
  refine WSs.cons (ps_if (tc := WT (Us X) c) (WT.pt (F := Us X) ()) WSs.pss WSs.pss) ?_
  have key : ∀ {σ' : St} {H' : Hp}, LpJ K B Pv Γf Of σ' H' → WSs X rest D σ' H' := fun {σ' H'} ⟨d, G', pd, W'⟩ => h3 d pd σ' G' H' W'
  refine h σ G H W _ fun b O' G' H' ⟨e1, e2⟩ W' _ => ?_
  subst e1 e2
  cases b with
  | true => exact WSs.mono (D0 := { D with nx := LpJ K B Pv Γf Of }) ⟨fun _ _ z => key z, fun _ _ z => z, fun _ _ z => z, fun _ _ z => z⟩ (h1 rfl σ G' H' W')
  | false => exact WSs.mono (D0 := { D with nx := LpJ K B Pv Γf Of }) ⟨fun _ _ z => key z, fun _ _ z => z, fun _ _ z => z, fun _ _ z => z⟩ (h2 rfl σ G' H' W')
theorem s_ifJE {δ : Type} (Pv : δ → Prop) (Γf : δ → Gm) (Of : δ → List Own) (h : DT (Us X) K B Γ O c fun t O' => (t = true → DS X K B Γ O' sa { D with nx := LpJ K B Pv Γf Of }) ∧ (t = false → DS X K B Γ O' sb { D with nx := LpJ K B Pv Γf Of }))
    (h3 : ∀ d, Pv d → DS X K B (Γf d) (Of d) rest D) : DS X K B Γ O (.If c sa sb pos :: rest) D := by
  intro σ G H W
  refine WSs.cons (ps_if (tc := WT (Us X) c) (WT.pt (F := Us X) ()) WSs.pss WSs.pss) ?_
  have key : ∀ {σ' : St} {H' : Hp}, LpJ K B Pv Γf Of σ' H' → WSs X rest D σ' H' := fun {σ' H'} ⟨d, G', pd, W'⟩ => h3 d pd σ' G' H' W'
  refine h σ G H W _ fun b O' G' H' kk W' _ => ?_
  cases b with
  | true => exact WSs.mono (D0 := { D with nx := LpJ K B Pv Γf Of }) ⟨fun _ _ z => key z, fun _ _ z => z, fun _ _ z => z, fun _ _ z => z⟩ (kk.1 rfl σ G' H' W')
  | false => exact WSs.mono (D0 := { D with nx := LpJ K B Pv Γf Of }) ⟨fun _ _ z => key z, fun _ _ z => z, fun _ _ z => z, fun _ _ z => z⟩ (kk.2 rfl σ G' H' W')
/-- the end of a way that meets others -/
theorem s_join {δ : Type} {Pv : δ → Prop} {Γf : δ → Gm} {Of : δ → List Own} (d : δ) (h : Pv d) (hw : Wk Γ (Γf d)) (ho : O = Of d) : DS X K B Γ O [] { D with nx := LpJ K B Pv Γf Of } :=
  s_nil fun σ G H W => ⟨d, G, h, by rw [← ho]; exact W.wk hw⟩
end
end Sk


set_option Elab.async false
set_option linter.all false
set_option maxRecDepth 100000
set_option maxHeartbeats 4100000
/-! Sk7: displays of dicts by written keys, more bounds. -/
namespace Sk
open PySem L2 Evl
theorem valV_none {kvs : List (Key × V)} {k : Key} (h : k ∉ kvs.map (·.1)) : valV kvs k = none := by
  induction kvs with
  | nil => rfl
  | cons p r ih =>
    rw [List.map_cons, List.mem_cons, not_or] at h
    rw [valV_neg (fun z => h.1 z.symm)]
    exact ih h.2
theorem merge_new : ∀ (more acc : List (Key × V)), ((acc ++ more).map (·.1)).Nodup → mergeK acc more = acc ++ more
  | [], acc, _ => by simp [mergeK]
  | p :: r, acc, h => by
    have h2 : ((acc ++ [p] ++ r).map (·.1)).Nodup := by rw [List.append_assoc]; exact h
    have hn : p.1 ∉ acc.map (·.1) := by
      rw [List.map_append, List.map_cons] at h
      intro z
      exact (List.nodup_append.mp h).2.2 _ z _ List.mem_cons_self rfl
    show mergeK (putK acc p.1 p.2) r = acc ++ p :: r
    rw [putK_new _ (valV_none hn), merge_new r _ h2, List.append_assoc]
    rfl
theorem zipK_keys {ns : List Str} {vs : List V} (h : vs.length = ns.length) : (zipK ns vs).map (·.1) = ns.map Sum.inr := by
  unfold zipK
  rw [List.map_fst_zip]
  rw [List.length_map, h]
  exact Nat.le_refl _
theorem merge_zip {ns : List Str} {vs : List V} (hn : ns.Nodup) (h : vs.length = ns.length) : mergeK [] (zipK ns vs) = zipK ns vs := by
  refine merge_new _ _ ?_
  rw [List.nil_append, zipK_keys h]
  clear h
  induction ns with
  | nil => exact List.nodup_nil
  | cons a r ih =>
    rw [List.map_cons]
    refine List.nodup_cons.mpr ⟨fun z => ?_, ih (List.nodup_cons.mp hn).2⟩
    obtain ⟨b, hb, eb⟩ := List.mem_map.mp z
    have eb' : b = a := Sum.inr.inj eb
    exact (List.nodup_cons.mp hn).1 (eb' ▸ hb)
section
variable {ι : Type} {F : ι → Cx} {K : Fg} {B : Bs} {Γ : Gm} {O : List Own} {α β γ : Type} {ra : Rp α} {rb : Rp β} {e : Expr} {es : List Expr} {pos : Pos} {ns : List Str}
def oNil : Ow Unit := ⟨fun _ _ o _ => o = .dK [], fun _ h => h⟩
/-- the values of a display, from the left -/
def DDs (F : ι → Cx) (K : Fg) (B : Bs) (Γ : Gm) (O : List Own) (kes : List (Str × Expr)) (f : RpF α) (Φ : α → List Own → Prop) : Prop :=
  ∀ σ G H, Ws K B Γ O σ G H → ∀ Q : List (V × V) → Hp → Prop, (∀ x O' vs G' H', Φ x O' → Ws K B Γ O' σ G' H' → Ex G G' → f.rep K G' vs x → vs.length = kes.length → Q ((kes.map fun p => V.str p.1).zip vs) H') → tPairs (kes.map fun p => (tC (.str p.1), WE F p.2)) σ H Q
theorem dd_one {key : Str} {Φ : α → List Own → Prop} (h : DW F K B Γ O e ra Φ) : DDs F K B Γ O [(key, e)] (fOne ra) Φ := by
  intro σ G H W Q q
  show WE F e σ H _
  exact h σ G H W _ fun x O1 v G1 H1 k W1 e1 r1 => q x O1 [v] G1 H1 k W1 e1 ⟨v, rfl, r1⟩ rfl
theorem dd_cons {key : Str} {kes : List (Str × Expr)} {f : RpF β} {Φ : α × β → List Own → Prop} (h : DW F K B Γ O e ra fun x O1 => DDs F K B Γ O1 kes f fun y O2 => Φ (x, y) O2) : DDs F K B Γ O ((key, e) :: kes) (fCons ra f) Φ := by
  intro σ G H W Q q
  show WE F e σ H _
  refine h σ G H W _ fun x O1 v G1 H1 k W1 e1 r1 => ?_
  exact k σ G1 H1 W1 _ fun y O2 vs G2 H2 k2 W2 e2 r2 hl => q (x, y) O2 (v :: vs) G2 H2 k2 W2 (e1.trans e2) ⟨v, vs, rfl, ra.mono e2 r1, r2⟩ (by rw [List.length_cons, List.length_cons, hl])
/-- {'key': e, ..}: a new dict of one's own -/
theorem d_disp {keys : List (Option Expr)} {f : RpF α} {Φ : Addr → List Own → Prop} (hn : ns.Nodup) (hp : ∀ i, PPs (F i) pos keys es ((ns.zip es).map fun p => (tC (.str p.1), WE F p.2)))
    (h : ∀ p, p ∉ B.M → DDs F K B Γ (⟨p, oNil, ()⟩ :: O) (ns.zip es) f fun x O1 => ∃ O2, O1 = ⟨p, oNil, ()⟩ :: O2 ∧ Φ p (⟨p, oRec ns f, x⟩ :: O2))
    (hall : keys.all (·.isSome) = true := by rfl) (hl : keys.length = es.length := by rfl) (h0 : keys ≠ [] := by simp) (h15 : keys.length ≤ 15 := by decide) (hk : es.length = ns.length := by rfl) : DW F K B Γ O (.Dict keys es pos) rAdr Φ := by
  intro σ G H W Q q
  refine ⟨_, fun i => pe_disp (hp i) hall hl h0 h15, ?_⟩
  intro p hp'
  refine h p (W.notM hp') σ G _ (W.newOwn hp' (r := oNil) (x := ()) rfl) _ fun x O1 vs G1 H1 ⟨O2, e1, kk⟩ W1 ex r1 hlen => ?_
  subst e1
  obtain ⟨⟨o, h1, h2⟩, _⟩ := W1.own _ List.mem_cons_self
  have h2' : o = .dK [] := h2
  subst h2'
  have hz : (ns.zip es).length = ns.length := by rw [List.length_zip, hk, Nat.min_self]
  have hlen2 : vs.length = ns.length := by rw [hlen, hz]
  refine ⟨h1, zipK ns vs, ?_, ?_, q p _ (.ref p) G1 _ kk (W1.mutHd (r' := oRec ns f) (x' := x) ⟨vs, congrArg HO.dK (merge_zip hn hlen2), r1⟩) ex rfl⟩
  · have e2 : ∀ (ks : List (Str × Expr)) (ws : List V), (ks.map fun p => V.str p.1).zip ws = (zipK (ks.map (·.1)) ws).map fun kv => (kV kv.1, kv.2) := by
      intro ks
      induction ks with
      | nil => intro ws; rfl
      | cons a r ih =>
        intro ws
        cases ws with
        | nil => rfl
        | cons b ws =>
          show (V.str a.1, b) :: _ = (kV (Sum.inr a.1), b) :: _
          exact congrArg _ (ih ws)
    have e3 : (ns.zip es).map (·.1) = ns := List.map_fst_zip (by rw [hk]; exact Nat.le_refl _)
    have e4 := e2 (ns.zip es) vs
    rw [e3] at e4
    exact e4
  · unfold zipK
    rw [List.length_zip, hlen2, List.length_map, Nat.min_self, ← hk, ← hl]
    exact h15
end
/-! a promise of a new own object -/
section
variable {K : Fg} {B : Bs} {Γ : Gm} {O : List Own} {α β δ : Type} {ra : RpF α} {pre : α → Prop} {T : List Addr} {r' : Ow δ} {post : α → δ → Prop}
abbrev spN (K : Fg) (T : List Addr) (ra : RpF α) (pre : α → Prop) (r' : Ow δ) (post : α → δ → Prop) : Sp := spM K T ra pre (fun _ => []) rAdr fun x q O' => ∃ d, post x d ∧ O' = [⟨q, r', d⟩]
theorem sw_n {x : α} {Φ : Addr → List Own → Prop} (hp : pre x) (h : ∀ q d, post x d → Φ q (⟨q, r', d⟩ :: O)) (hT : ∀ P ∈ T, P ∈ B.T := by first | exact fun _ h => h | (intro _ h; cases h)) : SW K B Γ O (spN K T ra pre r' post) [] ra x rAdr Φ :=
  sw_m O hp (fun w hw => hw) (fun z => z) (fun q O' ⟨d, p, e⟩ => by subst e; exact h q d p) hT
end
/-! bounds -/
class Sm (x : Int) : Prop where
  lt : x.natAbs < 2 ^ 8000
theorem smOk {k : Nat} {x : Int} [h : Bd k x] (hk : k ≤ 8000 := by decide) : Sm x := ⟨(h.mono hk).lt⟩
theorem Sm.bd {x : Int} (h : Sm x) : Bd 8000 x := ⟨h.lt⟩
theorem bd_lt {k : Nat} {x b : Int} [h : Bd k b] (h0 : 0 ≤ x) (h1 : x < b) : Bd k x := ⟨Nat.lt_of_le_of_lt (by omega) h.lt⟩
theorem bd_len {α : Type} {xs : List α} (h : xs.length ≤ sizeLine) : Bd 25 (xs.length : Int) := Bd.of (by omega) (by
  have e : sizeLine ≤ 2 ^ 24 := by decide
  omega)
theorem mod_rng (x : Int) {y : Int} (h : 0 < y) : 0 ≤ x % y ∧ x % y < y := ⟨Int.emod_nonneg x (by omega), Int.emod_lt_of_pos x h⟩
theorem atI_lt {α : Type} {xs : List α} {i : Int} (h0 : 0 ≤ i) (h1 : i < (xs.length : Int)) : ∃ x, atI xs i = some x ∧ x ∈ xs ∧ xs[i.toNat]? = some x := by
  have hl : i.toNat < xs.length := by omega
  refine ⟨xs[i.toNat], ?_, List.getElem_mem hl, List.getElem?_eq_getElem hl⟩
  unfold atI
  rw [atI_ok h0 (by omega)]
  exact List.getElem?_eq_getElem hl
theorem atI_getD {α : Type} {xs : List α} {i : Int} (d : α) (h0 : 0 ≤ i) (h1 : i < (xs.length : Int)) : atI xs i = some (xs.getD i.toNat d) := by
  obtain ⟨x, h, _, h2⟩ := atI_lt h0 h1
  rw [h, List.getD_eq_getElem?_getD, h2]
  rfl
end Sk
namespace Sk
open PySem L2 Evl
theorem rt_drop {K : Fg} {B : Bs} {Γ : Gm} {O : List Own} {α : Type} {r : Rp α} {x : α} {D : Ends} (h : RT K B Γ [] r x D) : RT K B Γ O r x D := fun v σ G H W => h v σ G H (W.perm (fun _ z => absurd z (by simp)) fun _ => List.nodup_nil)
theorem rgI_item {lo c : Int} {m i : Nat} {x : Int} (h : (rgI lo c m)[i]? = some x) : i < m ∧ x = lo + (i : Int) * c := by
  have hl := (List.getElem?_eq_some_iff.mp h).1
  rw [rgI_len] at hl
  rw [rgI_get hl] at h
  exact ⟨hl, (Option.some.inj h).symm⟩
/-- a module's whole number -/
theorem d_globI {ι : Type} {F : ι → Cx} {K : Fg} {B : Bs} {Γ : Gm} {O : List Own} {P : Program} {w : World} {mg : Str → Option Value} {base : Heap} {k : Nat} {n : Str} {pos : Pos} [fam : Fam F P w K mg base k] {i : Int} {t : Tok} {Φ : Int → List Own → Prop} (hm : mg n = some (.int i t)) (q : Φ i O)
    (hg : ∀ j, Gl (F j) n := by intro _; rfl) (hd : (n == ("__debug__" : Str)) = false := by decide) : DW F K B Γ O (.Name n pos) rInt Φ := d_glob (v := .int i) hm ⟨t, rfl⟩ (fun _ => rfl) q hg hd
theorem isi_int_int : kitB "int" "int" = some true := by decide +kernel
theorem isi_int_bool : kitB "int" "bool" = some false := by decide +kernel
theorem isi_bool_bool : kitB "bool" "bool" = some true := by decide +kernel
theorem isi_bool_int : kitB "bool" "int" = some true := by decide +kernel
theorem isi_list_list : kitB "list" "list" = some true := by decide +kernel
theorem isi_tuple_tuple : kitB "tuple" "tuple" = some true := by decide +kernel
theorem isi_str_str : kitB "str" "str" = some true := by decide +kernel
end Sk


set_option Elab.async false
set_option linter.all false
set_option maxRecDepth 100000
set_option maxHeartbeats 4100000
/-! Sk8: built-in functions by a module's name; math.isqrt. -/
namespace Sk
open PySem L2 Evl
section
variable {ι : Type} {F : ι → Cx} {K : Fg} {B : Bs} {Γ : Gm} {O : List Own} {α β γ : Type} {ra : Rp α} {rb : Rp β} {rc : Rp γ} {e : Expr} {es : List Expr} {pos p : Pos} {n : Str}
variable {P : Program} {w : World} {mg : Str → Option Value} {base : Heap} {k : Nat}
theorem d_callG [fam : Fam F P w K mg base k] {id : String} {g : RpF α} {Φ : γ → List Own → Prop} (hm : mg n = some (.builtin id)) (h : DA F K B Γ O (e :: es) g fun x O1 => CW F K B Γ O1 (.builtin id) g x rc Φ)
    (hg : ∀ i, Gl (F i) n := by intro _; rfl) (hdb : (n == ("__debug__" : Str)) = false := by decide)
    (he : ∀ i, starEach (e :: es) (F i).env = (false, eval e (F i).env) :: starEach es (F i).env := by intro _; rfl) (hpl : ∀ i, (backTo pos (starEach es (F i).env)).any (·.1) = false := by intro _; rfl) :
    DW F K B Γ O (.Call (.Name n p) (e :: es) [] pos) rc Φ := by
  intro σ G H W Q q
  refine ⟨_, fun i => pe_callBfun (wCl.cl i) (hg i) (by rw [fam.mg i]; exact hm) (WA.pa i) hdb (he i) (hpl i), ?_⟩
  refine h σ G H W _ fun x O1 vs G1 H1 k W1 e1 r1 => ?_
  exact k σ G1 H1 vs W1 r1 Q fun z O' u G2 H2 k2 W2 e2 r2 => q z O' u G2 H2 k2 W2 (e1.trans e2) r2
/-- the root, rounded down -/
def sqr (x : Int) : Int := (Float64.isqrt x.toNat : Nat)
theorem sqr_ok {x : Int} (h : 0 ≤ x) : 0 ≤ sqr x ∧ sqr x * sqr x ≤ x ∧ x < (sqr x + 1) * (sqr x + 1) := by
  obtain ⟨n, rfl⟩ := Int.eq_ofNat_of_zero_le h
  obtain ⟨h1, h2⟩ := Float64.isqrt_spec n
  unfold sqr
  rw [Int.toNat_natCast]
  exact ⟨Int.natCast_nonneg _, by exact_mod_cast h1, by exact_mod_cast h2⟩
def rSqrt : List V → Hp → VK → Prop := fun vs H Q => ∃ a : Int, vs = [.int a] ∧ (0 ≤ a ∧ a.toNat.log2 ≤ 13000) ∧ Q (.int (sqr a)) H
theorem cr_sqrt {X : Cx} : CallR X (.builtin "math.isqrt") rSqrt := by
  intro pins s σ H vs us Q I r h
  obtain ⟨a, rfl, ⟨h0, h1⟩, q⟩ := h
  obtain ⟨u, rfl, t, rfl⟩ := vals1 r
  exact call_function_meets PySem.W.MGF.kind_isqrt PySem.W.MGF.plain_isqrt PySem.W.MGF.entry_isqrt (PySem.W.MGF.args_isqrt _) (PySem.W.mg_run_isqrt a t (by omega) (by omega) (by omega)).meets ⟨.int _, H, I.tok _, ⟨_, rfl⟩, q⟩
theorem c_sqrt {x : Int} {b : Nat} [hb : Bd b x] {Φ : Int → List Own → Prop} (h0 : 0 ≤ x) (k : Φ (sqr x) O) (h1 : b ≤ 13000 := by decide) : CW F K B Γ O (.builtin "math.isqrt") (fOne rInt) x rInt Φ :=
  fun σ G H vs W ⟨v, e, rv⟩ Q q => ⟨_, fun _ => cr_sqrt, x, by rw [e, show v = V.int x from rv], ⟨h0, by
    have := log2_le hb
    rw [show x.natAbs = x.toNat by omega] at this
    omega⟩, q _ O _ G H k W (Ex.refl _) rfl⟩
end
end Sk


set_option Elab.async false
set_option linter.all false
set_option maxRecDepth 100000
set_option maxHeartbeats 4100000
/-! Sk9: deep equality, max and min of a list, len of a tuple, slices. -/
namespace Sk
open PySem L2 Evl
/-! ### data that == looks into -/
class Dat {α : Type} (r : Rp α) (enc : outParam (α → PyData)) (n : outParam Nat) (good : outParam (α → Prop)) : Prop where
  dp : ∀ {K : Fg} {G H : Hp} {v : V} {x : α}, Ex G H → r.rep K G v x → Dp K H v (enc x)
  lay : ∀ {x}, good x → PyData.canLay0 (enc x) = true
  dep : ∀ x, (enc x).depth ≤ n
  eqv : ∀ x y, PyData.eqv (enc x) (enc y) = true ↔ x = y
class DatF {α : Type} (f : RpF α) (enc : outParam (α → List PyData)) (n : outParam Nat) (good : outParam (α → Prop)) : Prop where
  dp : ∀ {K : Fg} {G H : Hp} {vs : List V} {x : α}, Ex G H → f.rep K G vs x → DpAll K H vs (enc x)
  lay : ∀ {x}, good x → PyData.canLayAll0 (enc x) = true
  dep : ∀ x, PyData.depthAll (enc x) ≤ n
  eqv : ∀ x y, PyData.eqvAll (enc x) (enc y) = true ↔ x = y
section
variable {α β γ : Type}
instance datInt : Dat rInt PyData.int 0 (fun _ => True) := ⟨fun _ h => by rw [show _ = V.int _ from h]; exact .int _, fun _ => rfl, fun _ => Nat.le_refl _, fun x y => by
  show (x == y) = true ↔ _
  simp⟩
instance datBool : Dat rBool PyData.bool 0 (fun _ => True) := ⟨fun _ h => by rw [show _ = V.bl _ from h]; exact .bl _, fun _ => rfl, fun _ => Nat.le_refl _, fun x y => by
  show (x == y) = true ↔ _
  simp⟩
instance datStr : Dat rStr PyData.str 0 (fun x => PyData.strOk x = true) := ⟨fun _ h => by rw [show _ = V.str _ from h]; exact .str _, fun h => h, fun _ => Nat.le_refl _, fun x y => by
  show (x == y) = true ↔ _
  simp⟩
instance datNon : Dat rNon (fun _ => PyData.none) 0 (fun _ => True) := ⟨fun _ h => by rw [show _ = V.non from h]; exact .non, fun _ => rfl, fun _ => Nat.le_refl _, fun x y => by
  show true = true ↔ _
  simp⟩
theorem all2_dp {r : Rp α} {enc : α → PyData} {n : Nat} {good : α → Prop} (hr : Dat r enc n good) {K : Fg} {G H : Hp} (e : Ex G H) : ∀ {vs : List V} {xs : List α}, All2 (r.rep K G) vs xs → DpAll K H vs (xs.map enc)
  | [], [], _ => .nil
  | _ :: _, _ :: _, ⟨a, b⟩ => .cons (hr.dp e a) (all2_dp hr e b)
  | [], _ :: _, z => z.elim
  | _ :: _, [], z => z.elim
theorem map_lay {r : Rp α} {enc : α → PyData} {n : Nat} {good : α → Prop} (hr : Dat r enc n good) : ∀ {xs : List α}, (∀ x ∈ xs, good x) → PyData.canLayAll0 (xs.map enc) = true
  | [], _ => rfl
  | x :: xs, h => by
    show (PyData.canLay0 (enc x) && PyData.canLayAll0 (xs.map enc)) = true
    rw [hr.lay (h x List.mem_cons_self), map_lay hr fun y hy => h y (List.mem_cons_of_mem _ hy)]
    rfl
theorem map_dep {r : Rp α} {enc : α → PyData} {n : Nat} {good : α → Prop} (hr : Dat r enc n good) : ∀ (xs : List α), PyData.depthAll (xs.map enc) ≤ n
  | [] => Nat.zero_le _
  | x :: xs => by
    show max (enc x).depth (PyData.depthAll (xs.map enc)) ≤ n
    exact Nat.max_le.mpr ⟨hr.dep x, map_dep hr xs⟩
theorem map_eqv {r : Rp α} {enc : α → PyData} {n : Nat} {good : α → Prop} (hr : Dat r enc n good) : ∀ (xs ys : List α), PyData.eqvAll (xs.map enc) (ys.map enc) = true ↔ xs = ys
  | [], [] => by simp [PyData.eqvAll]
  | [], _ :: _ => by simp [PyData.eqvAll]
  | _ :: _, [] => by simp [PyData.eqvAll]
  | x :: xs, y :: ys => by
    show (PyData.eqv (enc x) (enc y) && PyData.eqvAll (xs.map enc) (ys.map enc)) = true ↔ _
    rw [Bool.and_eq_true, hr.eqv, map_eqv hr xs ys]
    simp
instance datLst {r : Rp α} {enc : α → PyData} {n : Nat} {good : α → Prop} [hr : Dat r enc n good] : Dat (rLst r) (fun xs => PyData.list (xs.map enc)) (n + 1) (fun xs => ∀ x ∈ xs, good x) :=
  ⟨fun e ⟨a, vs, h1, h2, h3⟩ => by rw [h1]; exact .lst (SqL.of (e _ _ h2)) (all2_dp hr e h3), fun h => by show PyData.canLayAll0 _ = true; exact map_lay hr h, fun xs => by show PyData.depthAll _ + 1 ≤ n + 1; exact Nat.succ_le_succ (map_dep hr xs), fun xs ys => by show PyData.eqvAll _ _ = true ↔ _; exact map_eqv hr xs ys⟩
instance datSeq {r : Rp α} {enc : α → PyData} {n : Nat} {good : α → Prop} [hr : Dat r enc n good] : Dat (rSeq r) (fun xs => PyData.list (xs.map enc)) (n + 1) (fun xs => ∀ x ∈ xs, good x) :=
  ⟨fun e ⟨a, vs, h1, h2, h3⟩ => by rw [h1]; exact .lst (ex_l e h2) (all2_dp hr e h3), fun h => by show PyData.canLayAll0 _ = true; exact map_lay hr h, fun xs => by show PyData.depthAll _ + 1 ≤ n + 1; exact Nat.succ_le_succ (map_dep hr xs), fun xs ys => by show PyData.eqvAll _ _ = true ↔ _; exact map_eqv hr xs ys⟩
instance datTpv {r : Rp α} {enc : α → PyData} {n : Nat} {good : α → Prop} [hr : Dat r enc n good] : Dat (rTpv r) (fun xs => PyData.tuple (xs.map enc)) (n + 1) (fun xs => ∀ x ∈ xs, good x) :=
  ⟨fun e ⟨a, vs, h1, h2, h3⟩ => by rw [h1]; exact .tup (ex_t e h2) (all2_dp hr e h3), fun h => by show PyData.canLayAll0 _ = true; exact map_lay hr h, fun xs => by show PyData.depthAll _ + 1 ≤ n + 1; exact Nat.succ_le_succ (map_dep hr xs), fun xs ys => by show PyData.eqvAll _ _ = true ↔ _; exact map_eqv hr xs ys⟩
instance datOne {r : Rp α} {enc : α → PyData} {n : Nat} {good : α → Prop} [hr : Dat r enc n good] : DatF (fOne r) (fun x => [enc x]) n good :=
  ⟨fun e ⟨v, h1, h2⟩ => by rw [h1]; exact .cons (hr.dp e h2) .nil, fun h => by show (PyData.canLay0 _ && true) = true; rw [hr.lay h]; rfl, fun x => by show max _ 0 ≤ n; exact Nat.max_le.mpr ⟨hr.dep x, Nat.zero_le _⟩, fun x y => by
    show (PyData.eqv _ _ && true) = true ↔ _
    rw [Bool.and_true]
    exact hr.eqv x y⟩
instance datCons {r : Rp α} {enc : α → PyData} {n m : Nat} {good : α → Prop} {f : RpF β} {enc' : β → List PyData} {good' : β → Prop} [hr : Dat r enc n good] [hf : DatF f enc' m good'] : DatF (fCons r f) (fun x => enc x.1 :: enc' x.2) (max n m) (fun x => good x.1 ∧ good' x.2) :=
  ⟨fun e ⟨v, ws, h1, h2, h3⟩ => by rw [h1]; exact .cons (hr.dp e h2) (hf.dp e h3), fun h => by show (PyData.canLay0 _ && PyData.canLayAll0 _) = true; rw [hr.lay h.1, hf.lay h.2]; rfl,
   fun x => by show max _ _ ≤ _; exact Nat.max_le.mpr ⟨Nat.le_trans (hr.dep x.1) (Nat.le_max_left _ _), Nat.le_trans (hf.dep x.2) (Nat.le_max_right _ _)⟩, fun x y => by
    show (PyData.eqv _ _ && PyData.eqvAll _ _) = true ↔ _
    rw [Bool.and_eq_true, hr.eqv, hf.eqv]
    exact Prod.ext_iff.symm⟩
instance datTup {f : RpF β} {enc : β → List PyData} {m : Nat} {good : β → Prop} [hf : DatF f enc m good] : Dat (rTup f) (fun x => PyData.tuple (enc x)) (m + 1) good :=
  ⟨fun e ⟨a, vs, h1, h2, h3⟩ => by rw [h1]; exact .tup (ex_t e h2) (hf.dp e h3), fun h => hf.lay h, fun x => by show PyData.depthAll _ + 1 ≤ m + 1; exact Nat.succ_le_succ (hf.dep x), fun x y => by show PyData.eqvAll _ _ = true ↔ _; exact hf.eqv x y⟩
variable {ι : Type} {F : ι → Cx} {K : Fg} {B : Bs} {Γ : Gm} {O : List Own} {ra : Rp α} {rb : Rp β} {e : Expr} {es : List Expr} {pos p : Pos} {n : Str}
variable {P : Program} {w : World} {mg : Str → Option Value} {base : Heap} {k : Nat}
/-- of the value only Pp is kept -/
theorem d_abs (Pp : α → Prop) {Φ : α → List Own → Prop} (kk : ∀ x, Pp x → Φ x O) (h : DW F K B Γ O e ra fun x O' => Pp x ∧ O' = O) : DW F K B Γ O e ra Φ := d_mono h fun x O' ⟨e1, e2⟩ => by
  subst e2
  exact kk x e1
theorem shp {r : Rp α} {enc : α → PyData} {n : Nat} {good : α → Prop} (hr : Dat r enc n good) {x : α} (h : good x) (hn : n ≤ 64) : SeqAt.shaped (enc x) = true := by
  unfold SeqAt.shaped
  rw [hr.lay h, decide_eq_true (Nat.le_trans (hr.dep x) hn)]
  rfl
theorem o_eqD [fam : Fam F P w K mg base k] {enc : α → PyData} {n : Nat} {good : α → Prop} [hr : Dat ra enc n good] [DecidableEq α] {x y : α} {Ψ : Bool → List Own → Prop} (hx : good x) (hy : good y) (kk : Ψ (decide (x = y)) O) (hn : n ≤ 64 := by decide) : OW F K B Γ O (compareOp .Eq) ra ra x y rBool Ψ := fun σ G H v w W rv rw Q q =>
  ⟨rEqD K, fun j => by rw [← fam.ka j]; exact op_eqD (by have := (fam.rm j).units; omega), enc x, enc y, hr.dp W.sub rv, hr.dp W.sub rw, shp hr hx hn, shp hr hy hn, q _ O _ G H kk W (Ex.refl _) (by
    refine congrArg V.bl ?_
    by_cases z : x = y
    · rw [decide_eq_true z, (hr.eqv x y).mpr z]
    · rw [decide_eq_false z]
      exact Bool.eq_false_iff.mpr fun z2 => z ((hr.eqv x y).mp z2))⟩
theorem o_neD [fam : Fam F P w K mg base k] {enc : α → PyData} {n : Nat} {good : α → Prop} [hr : Dat ra enc n good] [DecidableEq α] {x y : α} {Ψ : Bool → List Own → Prop} (hx : good x) (hy : good y) (kk : Ψ (!decide (x = y)) O) (hn : n ≤ 64 := by decide) : OW F K B Γ O (compareOp .NotEq) ra ra x y rBool Ψ := fun σ G H v w W rv rw Q q =>
  ⟨rNeD K, fun j => by rw [← fam.ka j]; exact op_neD (by have := (fam.rm j).units; omega), enc x, enc y, hr.dp W.sub rv, hr.dp W.sub rw, shp hr hx hn, shp hr hy hn, q _ O _ G H kk W (Ex.refl _) (by
    refine congrArg (fun b => V.bl (!b)) ?_
    by_cases z : x = y
    · rw [decide_eq_true z, (hr.eqv x y).mpr z]
    · rw [decide_eq_false z]
      exact Bool.eq_false_iff.mpr fun z2 => z ((hr.eqv x y).mp z2))⟩
/-! ### max and min of a list, len of a tuple -/
theorem c_maxL {xs : List Int} {Φ : Int → List Own → Prop} (h0 : 0 < xs.length) (kk : ∀ m, m ∈ xs → (∀ y ∈ xs, y ≤ m) → Φ m O) (hK : ∀ j, (F j).K = K := by intro _; rfl) (hc : ∀ j, (F j).calm = true := by intro _; rfl) : CW F K B Γ O (.builtin "max") (fOne (rLst rInt)) xs rInt Φ :=
  fun σ G H vs W ⟨v, e, a, ws, h1, h2, h3⟩ Q q => ⟨rMax K, fun j => by rw [← hK j]; exact cr_max (hc j), a, xs, by rw [e, h1], SqL.of (W.sub _ _ (by rw [← All2.map_int h3]; exact h2)), h0, fun m hm1 hm2 => q _ O _ G H (kk m hm1 hm2) W (Ex.refl _) rfl⟩
theorem c_minL {xs : List Int} {Φ : Int → List Own → Prop} (h0 : 0 < xs.length) (kk : ∀ m, m ∈ xs → (∀ y ∈ xs, m ≤ y) → Φ m O) (hK : ∀ j, (F j).K = K := by intro _; rfl) (hc : ∀ j, (F j).calm = true := by intro _; rfl) : CW F K B Γ O (.builtin "min") (fOne (rLst rInt)) xs rInt Φ :=
  fun σ G H vs W ⟨v, e, a, ws, h1, h2, h3⟩ Q q => ⟨rMin K, fun j => by rw [← hK j]; exact cr_min (hc j), a, xs, by rw [e, h1], SqL.of (W.sub _ _ (by rw [← All2.map_int h3]; exact h2)), h0, fun m hm1 hm2 => q _ O _ G H (kk m hm1 hm2) W (Ex.refl _) rfl⟩
theorem c_maxO {p : Addr} {xs : List Int} {f : Own → List Own} [h : OwnAt O p (oLst rInt) xs f] {Φ : Int → List Own → Prop} (h0 : 0 < xs.length) (kk : ∀ m, m ∈ xs → (∀ y ∈ xs, y ≤ m) → Φ m O) (hK : ∀ j, (F j).K = K := by intro _; rfl) (hc : ∀ j, (F j).calm = true := by intro _; rfl) : CW F K B Γ O (.builtin "max") (fOne rAdr) p rInt Φ :=
  fun σ G H vs W ⟨v, e, h1⟩ Q q => by
    obtain ⟨u, h2, ws, h3, h4⟩ := W.ownO h
    subst h3
    exact ⟨rMax K, fun j => by rw [← hK j]; exact cr_max (hc j), p, xs, by rw [e, show v = V.ref p from h1], SqL.of (by rw [← All2.map_int h4]; exact h2), h0, fun m hm1 hm2 => q _ O _ G H (kk m hm1 hm2) W (Ex.refl _) rfl⟩
theorem c_minO {p : Addr} {xs : List Int} {f : Own → List Own} [h : OwnAt O p (oLst rInt) xs f] {Φ : Int → List Own → Prop} (h0 : 0 < xs.length) (kk : ∀ m, m ∈ xs → (∀ y ∈ xs, m ≤ y) → Φ m O) (hK : ∀ j, (F j).K = K := by intro _; rfl) (hc : ∀ j, (F j).calm = true := by intro _; rfl) : CW F K B Γ O (.builtin "min") (fOne rAdr) p rInt Φ :=
  fun σ G H vs W ⟨v, e, h1⟩ Q q => by
    obtain ⟨u, h2, ws, h3, h4⟩ := W.ownO h
    subst h3
    exact ⟨rMin K, fun j => by rw [← hK j]; exact cr_min (hc j), p, xs, by rw [e, show v = V.ref p from h1], SqL.of (by rw [← All2.map_int h4]; exact h2), h0, fun m hm1 hm2 => q _ O _ G H (kk m hm1 hm2) W (Ex.refl _) rfl⟩
theorem c_lenU {f : RpF α} {m : Nat} [hl : Len f m] {x : α} {Φ : Int → List Own → Prop} (kk : Φ (m : Int) O) (hK : ∀ j, (F j).K = K := by intro _; rfl) : CW F K B Γ O (.builtin "len") (fOne (rTup f)) x rInt Φ :=
  fun σ G H vs W ⟨v, e, a, ws, h1, h2, h3⟩ Q q => ⟨fun xs H Q => ∃ p ys, xs = [.ref p] ∧ (SqL K H p ys ∨ SqT K H p ys) ∧ Q (.int ys.length) H, fun j => by rw [← hK j]; exact call_len_seq, a, ws, by rw [e, h1], .inr (ex_t W.sub h2), q _ O _ G H kk W (Ex.refl _) (by rw [hl.len h3]; rfl)⟩
end
theorem dr_ok {c : Int} (h : 0 < c ∧ c ≤ 1000000) : 0 < c ∧ Sm c := ⟨h.1, by
  have := Bd.of (k := 20) (x := c) (by omega) (by omega)
  exact smOk⟩
theorem atI_last {α : Type} {l : List α} {x : α} (h : l.getLast? = some x) : atI l (-1) = some x := by
  cases l with
  | nil => simp at h
  | cons a r =>
    rw [List.getLast?_eq_getElem?] at h
    unfold atI ixN
    rw [if_neg (by omega), if_pos (by rw [List.length_cons]; omega)]
    show (a :: r)[((((a :: r).length : Nat) : Int) + -1).toNat]? = some x
    rw [show ((((a :: r).length : Nat) : Int) + -1).toNat = (a :: r).length - 1 by rw [List.length_cons]; omega]
    exact h
end Sk


set_option Elab.async false
set_option linter.all false
set_option maxRecDepth 100000
set_option maxHeartbeats 4100000
/-! Sk10: lists of any kind (pure, own): slices, stars, concatenation, methods; retyped slots; any, all. -/
namespace Sk
open PySem L2 Evl
/-! ### what reads as a list -/
class LsR {α : Type} (O : List Own) (ra : Rp α) (x : α) {β : outParam Type} (r : outParam (Rp β)) (xs : outParam (List β)) : Prop where
  get : ∀ {K : Fg} {B : Bs} {Γ : Gm} {σ : St} {G H : Hp} {v : V}, Ws K B Γ O σ G H → ra.rep K G v x → ∃ p vs, v = .ref p ∧ SqL K H p vs ∧ All2 (r.rep K G) vs xs
/-- and is no kept list of the module -/
class LsH {α : Type} (O : List Own) (ra : Rp α) (x : α) {β : outParam Type} (r : outParam (Rp β)) (xs : outParam (List β)) : Prop where
  get : ∀ {K : Fg} {B : Bs} {Γ : Gm} {σ : St} {G H : Hp} {v : V}, Ws K B Γ O σ G H → ra.rep K G v x → ∃ p vs, v = .ref p ∧ H p = some (.lst vs) ∧ All2 (r.rep K G) vs xs
section
variable {α β γ : Type}
instance lsrL {O : List Own} {r : Rp β} {xs : List β} : LsR O (rLst r) xs r xs := ⟨fun W ⟨a, vs, h1, h2, h3⟩ => ⟨a, vs, h1, SqL.of (W.sub _ _ h2), h3⟩⟩
instance lsrS {O : List Own} {r : Rp β} {xs : List β} : LsR O (rSeq r) xs r xs := ⟨fun W ⟨a, vs, h1, h2, h3⟩ => ⟨a, vs, h1, ex_l W.sub h2, h3⟩⟩
instance lsrO {O : List Own} {q : Addr} {r : Rp β} {xs : List β} {f : Own → List Own} [h : OwnAt O q (oLst r) xs f] : LsR O rAdr q r xs := ⟨fun W e => by
  obtain ⟨u, h2, ws, h3, h4⟩ := W.ownO h
  subst h3
  exact ⟨q, ws, e, SqL.of h2, h4⟩⟩
instance lshL {O : List Own} {r : Rp β} {xs : List β} : LsH O (rLst r) xs r xs := ⟨fun W ⟨a, vs, h1, h2, h3⟩ => ⟨a, vs, h1, W.sub _ _ h2, h3⟩⟩
instance lshO {O : List Own} {q : Addr} {r : Rp β} {xs : List β} {f : Own → List Own} [h : OwnAt O q (oLst r) xs f] : LsH O rAdr q r xs := ⟨fun W e => by
  obtain ⟨u, h2, ws, h3, h4⟩ := W.ownO h
  subst h3
  exact ⟨q, ws, e, h2, h4⟩⟩
variable {ι : Type} {F : ι → Cx} {K : Fg} {B : Bs} {Γ : Gm} {O : List Own} {ra : Rp α} {rb : Rp β} {rc : Rp γ} {e a b o : Expr} {es : List Expr} {lo hi : Option Expr} {pos p p2 apos : Pos} {n : Str}
variable {P : Program} {w : World} {mg : Str → Option Value} {base : Heap} {k : Nat}
theorem c_lenG {xs : List β} {x : α} [hl : LsR O ra x rb xs] {Φ : Int → List Own → Prop} (kk : Φ (xs.length : Int) O) (hK : ∀ j, (F j).K = K := by intro _; rfl) : CW F K B Γ O (.builtin "len") (fOne ra) x rInt Φ :=
  fun σ G H vs W ⟨v, e, rv⟩ Q q' => by
    obtain ⟨c, ws, h1, h2, h3⟩ := hl.get W rv
    exact ⟨fun xs H Q => ∃ p ys, xs = [.ref p] ∧ (SqL K H p ys ∨ SqT K H p ys) ∧ Q (.int ys.length) H, fun j => by rw [← hK j]; exact call_len_seq, c, ws, by rw [e, h1], .inl h2, q' _ O _ G H kk W (Ex.refl _) (by rw [h3.length]; rfl)⟩
theorem i_ls {xs : List β} {x : α} {y : β} {i : Int} [hl : LsR O ra x rb xs] {Φ : β → List Own → Prop} (h : atI xs i = some y) (kk : Φ y O) (hK : ∀ j, (F j).K = K := by intro _; rfl) : IW F K B Γ O ra rInt x i rb Φ := by
  intro σ G H v w W rv rw Q q'
  obtain ⟨c, ws, h1, h2, h3⟩ := hl.get W rv
  unfold atI at h
  obtain ⟨j, h5, h6⟩ := Option.bind_eq_some_iff.mp h
  obtain ⟨u, h7, h8⟩ := h3.get' h6
  refine ⟨rIxL K, fun j => by rw [← hK j]; exact ix_list, c, ws, i, u, h1, rw, h2, ?_, q' y O u G H kk W (Ex.refl _) h8⟩
  unfold atI
  rw [h3.length, h5]
  exact h7
theorem c_sumG {xs : List Int} {x : α} [hl : LsR O ra x rInt xs] {Φ : Int → List Own → Prop} (kk : Φ xs.sum O) (hK : ∀ j, (F j).K = K := by intro _; rfl) (hc : ∀ j, (F j).calm = true := by intro _; rfl) : CW F K B Γ O (.builtin "sum") (fOne ra) x rInt Φ :=
  fun σ G H vs W ⟨v, e, rv⟩ Q q' => by
    obtain ⟨c, ws, h1, h2, h3⟩ := hl.get W rv
    exact ⟨rSum K, fun j => by rw [← hK j]; exact cr_sum (hc j), c, xs, by rw [e, h1], by rw [← All2.map_int h3]; exact h2, q' _ O _ G H kk W (Ex.refl _) rfl⟩
theorem c_maxG {xs : List Int} {x : α} [hl : LsR O ra x rInt xs] {Φ : Int → List Own → Prop} (h0 : 0 < xs.length) (kk : ∀ m, m ∈ xs → (∀ y ∈ xs, y ≤ m) → Φ m O) (hK : ∀ j, (F j).K = K := by intro _; rfl) (hc : ∀ j, (F j).calm = true := by intro _; rfl) : CW F K B Γ O (.builtin "max") (fOne ra) x rInt Φ :=
  fun σ G H vs W ⟨v, e, rv⟩ Q q' => by
    obtain ⟨c, ws, h1, h2, h3⟩ := hl.get W rv
    exact ⟨rMax K, fun j => by rw [← hK j]; exact cr_max (hc j), c, xs, by rw [e, h1], by rw [← All2.map_int h3]; exact h2, h0, fun m hm1 hm2 => q' _ O _ G H (kk m hm1 hm2) W (Ex.refl _) rfl⟩
theorem c_minG {xs : List Int} {x : α} [hl : LsR O ra x rInt xs] {Φ : Int → List Own → Prop} (h0 : 0 < xs.length) (kk : ∀ m, m ∈ xs → (∀ y ∈ xs, m ≤ y) → Φ m O) (hK : ∀ j, (F j).K = K := by intro _; rfl) (hc : ∀ j, (F j).calm = true := by intro _; rfl) : CW F K B Γ O (.builtin "min") (fOne ra) x rInt Φ :=
  fun σ G H vs W ⟨v, e, rv⟩ Q q' => by
    obtain ⟨c, ws, h1, h2, h3⟩ := hl.get W rv
    exact ⟨rMin K, fun j => by rw [← hK j]; exact cr_min (hc j), c, xs, by rw [e, h1], by rw [← All2.map_int h3]; exact h2, h0, fun m hm1 hm2 => q' _ O _ G H (kk m hm1 hm2) W (Ex.refl _) rfl⟩
theorem All2.map_bl : ∀ {vs : List V} {xs : List Bool}, All2 (fun v x => v = .bl x) vs xs → vs = xs.map V.bl
  | [], [], _ => rfl
  | _ :: _, _ :: _, ⟨a, b⟩ => by
    rw [a, All2.map_bl b]
    rfl
  | [], _ :: _, z => z.elim
  | _ :: _, [], z => z.elim
theorem c_anyG {xs : List Bool} {x : α} [hl : LsR O ra x rBool xs] {Φ : Bool → List Own → Prop} (kk : Φ (xs.any id) O) (hK : ∀ j, (F j).K = K := by intro _; rfl) (hc : ∀ j, (F j).calm = true := by intro _; rfl) : CW F K B Γ O (.builtin "any") (fOne ra) x rBool Φ :=
  fun σ G H vs W ⟨v, e, rv⟩ Q q' => by
    obtain ⟨c, ws, h1, h2, h3⟩ := hl.get W rv
    exact ⟨L2.rAny K, fun j => by rw [← hK j]; exact cr_any (hc j), c, xs, by rw [e, h1], by rw [← All2.map_bl h3]; exact h2, q' _ O _ G H kk W (Ex.refl _) rfl⟩
theorem c_allG {xs : List Bool} {x : α} [hl : LsR O ra x rBool xs] {Φ : Bool → List Own → Prop} (kk : Φ (xs.all id) O) (hK : ∀ j, (F j).K = K := by intro _; rfl) (hc : ∀ j, (F j).calm = true := by intro _; rfl) : CW F K B Γ O (.builtin "all") (fOne ra) x rBool Φ :=
  fun σ G H vs W ⟨v, e, rv⟩ Q q' => by
    obtain ⟨c, ws, h1, h2, h3⟩ := hl.get W rv
    exact ⟨L2.rAll K, fun j => by rw [← hK j]; exact cr_all (hc j), c, xs, by rw [e, h1], by rw [← All2.map_bl h3]; exact h2, q' _ O _ G H kk W (Ex.refl _) rfl⟩
/-! ### slices -/
def WO (F : ι → Cx) (e : Option Expr) : TO := fun σ H Q => ∃ t, (∀ i, PO (F i) e t) ∧ t σ H Q
theorem WO.po {e : Option Expr} (i : ι) : PO (F i) e (WO F e) := ⟨fun pins s σ H Q I ⟨_, p, q⟩ => (p i).run pins s σ H Q I q⟩
def wSl (F : ι → Cx) : V → Option Int → Option Int → Hp → VK → Prop := fun x l h H Q => ∃ r, (∀ i, SlR (F i) r) ∧ r x l h H Q
theorem wSl.sl (i : ι) : SlR (F i) (wSl F) := fun pins s σ H x v vl vu lo hi sl Q I rx hs pl pu ⟨_, p, q⟩ => p i pins s σ H x v vl vu lo hi sl Q I rx hs pl pu q
def DO (F : ι → Cx) (K : Fg) (B : Bs) (Γ : Gm) (O : List Own) (e : Option Expr) (Φ : Option Int → List Own → Prop) : Prop :=
  ∀ σ G H, Ws K B Γ O σ G H → ∀ Q : Option Int → Hp → Prop, (∀ x O' G' H', Φ x O' → Ws K B Γ O' σ G' H' → Ex G G' → Q x H') → WO F e σ H Q
theorem do_no {Φ : Option Int → List Own → Prop} (kk : Φ none O) : DO F K B Γ O none Φ := fun σ G H W Q q => ⟨_, fun _ => po_none, q none O G H kk W (Ex.refl _)⟩
theorem do_at {Φ : Option Int → List Own → Prop} (h : DW F K B Γ O e rInt fun i O1 => Φ (some i) O1) : DO F K B Γ O (some e) Φ := by
  intro σ G H W Q q
  refine ⟨_, fun i => po_some (WE.pe i), ?_⟩
  exact h σ G H W _ fun x O1 v G1 H1 kk W1 e1 r1 => ⟨x, r1, q _ O1 G1 H1 kk W1 e1⟩
def SLW (F : ι → Cx) (K : Fg) (B : Bs) (Γ : Gm) (O : List Own) (ra : Rp α) (x : α) (l h : Option Int) (rc : Rp γ) (Φ : γ → List Own → Prop) : Prop :=
  ∀ σ G H v, Ws K B Γ O σ G H → ra.rep K G v x → ∀ Q : VK, (∀ z O' u G' H', Φ z O' → Ws K B Γ O' σ G' H' → Ex G G' → rc.rep K G' u z → Q u H') → wSl F v l h H Q
theorem d_slice {Φ : γ → List Own → Prop} (h : DW F K B Γ O e ra fun x O1 => DO F K B Γ O1 lo fun l O2 => DO F K B Γ O2 hi fun u O3 => SLW F K B Γ O3 ra x l u rc Φ) : DW F K B Γ O (.Subscript e (.Slice lo hi none p2) pos) rc Φ := by
  intro σ G H W Q q
  refine ⟨_, fun i => pe_slice (wSl.sl i) (WE.pe i) (WO.po i) (WO.po i), ?_⟩
  refine h σ G H W _ fun x O1 v G1 H1 h1 W1 e1 r1 => ?_
  refine h1 σ G1 H1 W1 _ fun l O2 G2 H2 h2 W2 e2 => ?_
  refine h2 σ G2 H2 W2 _ fun u O3 G3 H3 h3 W3 e3 => ?_
  exact h3 σ G3 H3 v W3 (ra.mono (e2.trans e3) r1) Q fun z O' u G' H' kk W' e' r' => q z O' u G' H' kk W' (((e1.trans e2).trans e3).trans e') r'
def cutL {α : Type} (xs : List α) (lo hi : Option Int) : List α := (xs.drop (HT.sIx xs.length 0 lo)).take (HT.sIx xs.length xs.length hi - HT.sIx xs.length 0 lo)
theorem cut_all2 {p : V → α → Prop} {vs : List V} {xs : List α} (h : All2 p vs xs) (lo hi : Option Int) : All2 p (cutV vs lo hi) (cutL xs lo hi) := by
  unfold cutV cutL
  rw [h.length]
  exact (h.drop _).take _
theorem sl_l {xs : List β} {x : α} {l h : Option Int} [hl : LsR O ra x rb xs] {Φ : List β → List Own → Prop} (kk : Φ (cutL xs l h) O) (hK : ∀ j, (F j).K = K := by intro _; rfl) : SLW F K B Γ O ra x l h (rLst rb) Φ := by
  intro σ G H v W rv Q q
  obtain ⟨c, ws, h1, h2, h3⟩ := hl.get W rv
  refine ⟨rSlL K, fun j => by rw [← hK j]; exact sl_list, c, ws, h1, h2, fun p hp => ?_⟩
  have s : Stp B.T [] G H (upd G p (.lst (cutV ws l h))) (upd H p (.lst (cutV ws l h))) := Stp.new W.sub hp
  exact q _ O _ _ _ kk (W.step s) s.g ⟨p, _, rfl, upd_same, (cut_all2 h3 l h).mono fun _ _ z => rb.mono s.g z⟩
theorem sl_e {xs ys : List β} {x : α} {l h : Option Int} [hl : LsR O ra x rb xs] {Φ : List β → List Own → Prop} (e : cutL xs l h = ys) (kk : Φ ys O) (hK : ∀ j, (F j).K = K := by intro _; rfl) : SLW F K B Γ O ra x l h (rLst rb) Φ := by
  subst e
  exact sl_l kk hK
theorem sl_o {xs : List β} {x : α} {l h : Option Int} [hl : LsR O ra x rb xs] {Φ : Addr → List Own → Prop} (kk : ∀ p, p ∉ B.M → Φ p (⟨p, oLst rb, cutL xs l h⟩ :: O)) (hK : ∀ j, (F j).K = K := by intro _; rfl) : SLW F K B Γ O ra x l h rAdr Φ := by
  intro σ G H v W rv Q q
  obtain ⟨c, ws, h1, h2, h3⟩ := hl.get W rv
  refine ⟨rSlL K, fun j => by rw [← hK j]; exact sl_list, c, ws, h1, h2, fun p hp => ?_⟩
  exact q p _ _ G _ (kk p (W.notM hp)) (W.newOwn hp (r := oLst rb) (x := cutL xs l h) ⟨_, rfl, cut_all2 h3 l h⟩) (Ex.refl _) rfl
/-- a tuple's slice, not the whole -/
theorem sl_t {xs : List β} {l h : Option Int} {Φ : List β → List Own → Prop} (hw : ¬ (HT.sIx xs.length 0 l = 0 ∧ HT.sIx xs.length xs.length h = xs.length)) (kk : Φ (cutL xs l h) O) (hK : ∀ j, (F j).K = K := by intro _; rfl) : SLW F K B Γ O (rTpv rb) xs l h (rTpv rb) Φ := by
  intro σ G H v W ⟨c, ws, h1, h2, h3⟩ Q q
  refine ⟨rSlT K, fun j => by rw [← hK j]; exact sl_tup, c, ws, h1, ex_t W.sub h2, by rw [h3.length]; exact hw, fun p hp => ?_⟩
  have s : Stp B.T [] G H (upd G p (.tup (cutV ws l h))) (upd H p (.tup (cutV ws l h))) := Stp.new W.sub hp
  exact q _ O _ _ _ kk (W.step s) s.g ⟨p, _, rfl, SqT.of upd_same, (cut_all2 h3 l h).mono fun _ _ z => rb.mono s.g z⟩
/-! ### stars, concatenation, list(xs) -/
theorem da_star [fam : Fam F P w K mg base k] {Φ : List β → List Own → Prop} (h : DW F K B Γ O e ra fun x O1 => ∃ xs, LsR O1 ra x rb xs ∧ DA F K B Γ O1 es (fAll rb) fun ys O2 => Φ (xs ++ ys) O2)
    (hs : ∀ i, starEach (.Starred e p :: es) (F i).env = (true, eval e (F i).env) :: starEach es (F i).env := by intro _; rfl) : DA F K B Γ O (.Starred e p :: es) (fAll rb) Φ := by
  intro σ G H W Q q
  refine ⟨StX.tStar K (WE F e) (WA F es), fun i => by rw [← fam.ka i]; exact StX.pa_star (WE.pe i) (WA.pa i) (hs i), ?_⟩
  refine h σ G H W _ fun x O1 v G1 H1 ⟨xs, hl, kk⟩ W1 e1 r1 => ?_
  obtain ⟨c, ws, h1, h2, h3⟩ := hl.get W1 r1
  refine ⟨c, ws, h1, .inr h2, ?_⟩
  exact kk σ G1 H1 W1 _ fun ys O2 vs G2 H2 k2 W2 e2 r2 => q _ O2 _ G2 H2 k2 W2 (e1.trans e2) ((h3.mono fun _ _ z => rb.mono e2 z).append r2)
theorem o_cat {xs ys : List γ} {x : α} {y : β} [h1 : LsH O ra x rc xs] [h2 : LsH O rb y rc ys] {Φ : List γ → List Own → Prop} (hz : xs.length + ys.length ≤ sizeLine) (kk : Φ (xs ++ ys) O) : OW F K B Γ O (binaryOp .Add) ra rb x y (rLst rc) Φ := by
  intro σ G H v u W rv ru Q q
  obtain ⟨c, vs, a1, a2, a3⟩ := h1.get W rv
  obtain ⟨d, us, b1, b2, b3⟩ := h2.get W ru
  refine ⟨_, fun _ => op_cat, c, d, vs, us, a1, b1, a2, b2, by rw [a3.length, b3.length]; exact hz, fun p hp => ?_⟩
  have s : Stp B.T [] G H (upd G p (.lst (vs ++ us))) (upd H p (.lst (vs ++ us))) := Stp.new W.sub hp
  exact q _ O _ _ _ kk (W.step s) s.g ⟨p, _, rfl, upd_same, (a3.append b3).mono fun _ _ z => rc.mono s.g z⟩
theorem o_catO {xs ys : List γ} {x : α} {y : β} [h1 : LsH O ra x rc xs] [h2 : LsH O rb y rc ys] {Φ : Addr → List Own → Prop} (hz : xs.length + ys.length ≤ sizeLine) (kk : ∀ p, p ∉ B.M → Φ p (⟨p, oLst rc, xs ++ ys⟩ :: O)) : OW F K B Γ O (binaryOp .Add) ra rb x y rAdr Φ := by
  intro σ G H v u W rv ru Q q
  obtain ⟨c, vs, a1, a2, a3⟩ := h1.get W rv
  obtain ⟨d, us, b1, b2, b3⟩ := h2.get W ru
  refine ⟨_, fun _ => op_cat, c, d, vs, us, a1, b1, a2, b2, by rw [a3.length, b3.length]; exact hz, fun p hp => ?_⟩
  exact q p _ _ G _ (kk p (W.notM hp)) (W.newOwn hp (r := oLst rc) (x := xs ++ ys) ⟨_, rfl, a3.append b3⟩) (Ex.refl _) rfl
theorem c_list {xs : List β} {x : α} [hl : LsR O ra x rb xs] {Φ : List β → List Own → Prop} (kk : Φ xs O) (hK : ∀ j, (F j).K = K := by intro _; rfl) : CW F K B Γ O (.type "list") (fOne ra) x (rLst rb) Φ :=
  fun σ G H vs W ⟨v, e, rv⟩ Q q => by
    obtain ⟨c, ws, h1, h2, h3⟩ := hl.get W rv
    refine ⟨fun xs H Q => ∃ p ys, xs = [.ref p] ∧ (SqL K H p ys ∨ SqT K H p ys) ∧ ∀ l, H l = none → Q (.ref l) (upd H l (.lst ys)), fun j => by rw [← hK j]; exact call_list_of, c, ws, by rw [e, h1], .inl h2, fun p hp => ?_⟩
    have s : Stp B.T [] G H (upd G p (.lst ws)) (upd H p (.lst ws)) := Stp.new W.sub hp
    exact q _ O _ _ _ kk (W.step s) s.g ⟨p, _, rfl, upd_same, h3.mono fun _ _ z => rb.mono s.g z⟩
theorem c_listO {xs : List β} {x : α} [hl : LsR O ra x rb xs] {Φ : Addr → List Own → Prop} (kk : ∀ p, p ∉ B.M → Φ p (⟨p, oLst rb, xs⟩ :: O)) (hK : ∀ j, (F j).K = K := by intro _; rfl) : CW F K B Γ O (.type "list") (fOne ra) x rAdr Φ :=
  fun σ G H vs W ⟨v, e, rv⟩ Q q => by
    obtain ⟨c, ws, h1, h2, h3⟩ := hl.get W rv
    refine ⟨fun xs H Q => ∃ p ys, xs = [.ref p] ∧ (SqL K H p ys ∨ SqT K H p ys) ∧ ∀ l, H l = none → Q (.ref l) (upd H l (.lst ys)), fun j => by rw [← hK j]; exact call_list_of, c, ws, by rw [e, h1], .inl h2, fun p hp => ?_⟩
    exact q p _ _ G _ (kk p (W.notM hp)) (W.newOwn hp (r := oLst rb) (x := xs) ⟨_, rfl, h3⟩) (Ex.refl _) rfl
/-- tuple(xs) of a list -/
theorem c_tuple {xs : List β} {x : α} [hl : LsR O ra x rb xs] {Φ : List β → List Own → Prop} (kk : Φ xs O) (hK : ∀ j, (F j).K = K := by intro _; rfl) : CW F K B Γ O (.type "tuple") (fOne ra) x (rTpv rb) Φ :=
  fun σ G H vs W ⟨v, e, rv⟩ Q q => by
    obtain ⟨c, ws, h1, h2, h3⟩ := hl.get W rv
    refine ⟨fun xs H Q => ∃ p ys, xs = [.ref p] ∧ ((SqL K H p ys ∧ ∀ l, H l = none → Q (.ref l) (upd H l (.tup ys))) ∨ (SqT K H p ys ∧ Q (.ref p) H)), fun j => by rw [← hK j]; exact call_tuple_of, c, ws, by rw [e, h1], .inl ⟨h2, fun p hp => ?_⟩⟩
    have s : Stp B.T [] G H (upd G p (.tup ws)) (upd H p (.tup ws)) := Stp.new W.sub hp
    exact q _ O _ _ _ kk (W.step s) s.g ⟨p, _, rfl, SqT.of upd_same, h3.mono fun _ _ z => rb.mono s.g z⟩
/-! ### methods of an own list -/
theorem d_ext [fam : Fam F P w K mg base k] {Φ : Unit → List Own → Prop} (h : DW F K B Γ O o rAdr fun q O1 => ∃ xs1 f1, OwnAt O1 q (oLst rc) xs1 f1 ∧ DW F K B Γ O1 e rb fun y O2 => ∃ xs f zs, OwnAt O2 q (oLst rc) xs f ∧ LsH O2 rb y rc zs ∧ xs.length + zs.length ≤ sizeLine ∧ Φ () (f ⟨q, oLst rc, xs ++ zs⟩))
    (hbase : ∀ j, attributeBase o "extend" (F j).env (eval o (F j).env) = eval o (F j).env := by intro _; rfl)
    (hfew : ∀ j, ((backTo pos (starEach [e] (F j).env)).all (fun x => !x.1) && (backToKw pos (keywordEach [] (F j).env)).all (fun x => x.1.isSome)
      && decide ([e].length + ([] : List Keyword).length + (if ([] : List Keyword).isEmpty then 0 else 1) < 30)) = true := by intro _; rfl)
    (hline : (apos.endLine == pos.line) = true := by rfl) (hs : ∀ j, starEach [e] (F j).env = (false, eval e (F j).env) :: starEach [] (F j).env := by intro _; rfl) :
    DW F K B Γ O (.Call (.Attribute o "extend" apos) [e] [] pos) rNon Φ := by
  refine d_bm (ra := rAdr) (f := fOne rb) PySem.F.plainAttrs_list PySem.F.slot_list_extend PySem.F.type_list_extend (fun j => mt_extend) ?_ hbase hfew hline hs (fun _ => rfl)
  refine d_mono h fun q O1 ⟨xs1, f1, hO1, h1⟩ => ⟨tyO hO1, da_one (d_mono h1 fun y O2 ⟨xs, f, zs, hO, hZ, hl, kk⟩ => ?_) hs⟩
  intro σ G H v vs W rv ⟨u, e1, ru⟩ Q q'
  obtain ⟨ob, h2, ws, h3, h4⟩ := W.ownO hO
  subst h3
  obtain ⟨c, us, b1, b2, b3⟩ := hZ.get W ru
  refine ⟨q, c, ws, us, rv, by rw [e1, b1], h2, b2, by rw [h4.length, b3.length]; exact hl, q' () _ .non G _ kk ?_ (Ex.refl _) rfl⟩
  exact W.mutO (h := hO) (r' := oLst rc) (x' := xs ++ zs) ⟨ws ++ us, rfl, h4.append b3⟩
/-- xs.insert(i, y) -/
theorem d_ins [fam : Fam F P w K mg base k] {Φ : Unit → List Own → Prop} (h : DW F K B Γ O o rAdr fun q O1 => ∃ xs1 f1, OwnAt O1 q (oLst rc) xs1 f1 ∧ DW F K B Γ O1 a rInt fun i O2 => DW F K B Γ O2 b rc fun y O3 => ∃ xs f, OwnAt O3 q (oLst rc) xs f ∧ xs.length < sizeLine ∧ (0 ≤ i ∧ i < 2 ^ 63) ∧ Φ () (f ⟨q, oLst rc, xs.take i.toNat ++ [y] ++ xs.drop i.toNat⟩))
    (hbase : ∀ j, attributeBase o "insert" (F j).env (eval o (F j).env) = eval o (F j).env := by intro _; rfl)
    (hfew : ∀ j, ((backTo pos (starEach [a, b] (F j).env)).all (fun x => !x.1) && (backToKw pos (keywordEach [] (F j).env)).all (fun x => x.1.isSome)
      && decide ([a, b].length + ([] : List Keyword).length + (if ([] : List Keyword).isEmpty then 0 else 1) < 30)) = true := by intro _; rfl)
    (hline : (apos.endLine == pos.line) = true := by rfl) (hs : ∀ j, starEach [a, b] (F j).env = (false, eval a (F j).env) :: starEach [b] (F j).env := by intro _; rfl) (hs2 : ∀ j, starEach [b] (F j).env = (false, eval b (F j).env) :: starEach [] (F j).env := by intro _; rfl)
    (hpl : ∀ j, (backTo pos (starEach [b] (F j).env)).any (·.1) = false := by intro _; rfl) :
    DW F K B Γ O (.Call (.Attribute o "insert" apos) [a, b] [] pos) rNon Φ := by
  refine d_bm (ra := rAdr) (f := fCons rInt (fOne rc)) PySem.F.plainAttrs_list PySem.F.slot_list_insert PySem.F.type_list_insert (fun j => mt_insert) ?_ hbase hfew hline hs hpl
  refine d_mono h fun q O1 ⟨xs1, f1, hO1, h1⟩ => ⟨tyO hO1, da_cons (d_mono h1 fun i O2 h2 => da_one (d_mono h2 fun y O3 ⟨xs, f, hO, hl, hi, kk⟩ => ?_) hs2) hs⟩
  intro σ G H v vs W rv ⟨u, ws2, e1, ru, u2, e2, ru2⟩ Q q'
  obtain ⟨ob, h2, ws, h3, h4⟩ := W.ownO hO
  subst h3
  refine ⟨q, ws, i, u2, rv, by rw [e1, e2, show u = V.int i from ru], h2, by rw [h4.length]; exact hl, hi.1, hi.2, q' () _ .non G _ kk ?_ (Ex.refl _) rfl⟩
  exact W.mutO (h := hO) (r' := oLst rc) (x' := xs.take i.toNat ++ [y] ++ xs.drop i.toNat) ⟨_, rfl, ((h4.take i.toNat).append (show All2 (rc.rep K G) [u2] [y] from ⟨ru2, trivial⟩)).append (h4.drop i.toNat)⟩
theorem All2.eraseIdx {p : V → α → Prop} : ∀ {vs : List V} {xs : List α} (i : Nat), All2 p vs xs → All2 p (vs.eraseIdx i) (xs.eraseIdx i)
  | [], [], _, _ => by simp [All2]
  | _ :: _, _ :: _, 0, ⟨_, b⟩ => b
  | _ :: _, _ :: _, i + 1, ⟨a, b⟩ => ⟨a, All2.eraseIdx i b⟩
  | [], _ :: _, _, z => z.elim
  | _ :: _, [], _, z => z.elim
/-- xs.pop(i), i not below 0 -/
theorem d_popI [fam : Fam F P w K mg base k] {Φ : γ → List Own → Prop} (h : DW F K B Γ O o rAdr fun q O1 => ∃ xs1 f1, OwnAt O1 q (oLst rc) xs1 f1 ∧ DW F K B Γ O1 e rInt fun i O2 => ∃ xs f y, OwnAt O2 q (oLst rc) xs f ∧ (0 ≤ i ∧ i < 2 ^ 63) ∧ xs[i.toNat]? = some y ∧ Φ y (f ⟨q, oLst rc, xs.eraseIdx i.toNat⟩))
    (hbase : ∀ j, attributeBase o "pop" (F j).env (eval o (F j).env) = eval o (F j).env := by intro _; rfl)
    (hfew : ∀ j, ((backTo pos (starEach [e] (F j).env)).all (fun x => !x.1) && (backToKw pos (keywordEach [] (F j).env)).all (fun x => x.1.isSome)
      && decide ([e].length + ([] : List Keyword).length + (if ([] : List Keyword).isEmpty then 0 else 1) < 30)) = true := by intro _; rfl)
    (hline : (apos.endLine == pos.line) = true := by rfl) (hs : ∀ j, starEach [e] (F j).env = (false, eval e (F j).env) :: starEach [] (F j).env := by intro _; rfl) :
    DW F K B Γ O (.Call (.Attribute o "pop" apos) [e] [] pos) rc Φ := by
  refine d_bm (ra := rAdr) (f := fOne rInt) PySem.F.plainAttrs_list PySem.F.slot_list_pop PySem.F.type_list_pop (fun j => mt_popAt) ?_ hbase hfew hline hs (fun _ => rfl)
  refine d_mono h fun q O1 ⟨xs1, f1, hO1, h1⟩ => ⟨tyO hO1, da_one (d_mono h1 fun i O2 ⟨xs, f, y, hO, hi, hy, kk⟩ => ?_) hs⟩
  intro σ G H v vs W rv ⟨u, e1, ru⟩ Q q'
  obtain ⟨ob, h2, ws, h3, h4⟩ := W.ownO hO
  subst h3
  obtain ⟨yv, h5, h6⟩ := h4.get' hy
  have hlt : i.toNat < ws.length := (List.getElem?_eq_some_iff.mp h5).1
  refine ⟨q, ws, i, i.toNat, yv, rv, by rw [e1, show u = V.int i from ru], h2, by omega, hi.2, seqIndex_of hi.1 (by omega), h5, q' y _ yv G _ kk ?_ (Ex.refl _) h6⟩
  exact W.mutO (h := hO) (r' := oLst rc) (x' := xs.eraseIdx i.toNat) ⟨_, rfl, h4.eraseIdx _⟩
/-! ### x == y: an own list of plain things and a list -/
theorem o_eqG [fam : Fam F P w K mg base k] {enc : γ → PyData} {n : Nat} {good : γ → Prop} [hr : Dat rc enc n good] [DecidableEq γ] {x : α} {y : β} {xs ys : List γ} [h1 : LsR O ra x rc xs] [h2 : LsR O rb y rc ys] {Ψ : Bool → List Own → Prop} (hx : ∀ z ∈ xs, good z) (hy : ∀ z ∈ ys, good z) (kk : Ψ (decide (xs = ys)) O) (hn : n + 1 ≤ 64 := by decide) : OW F K B Γ O (compareOp .Eq) ra rb x y rBool Ψ := fun σ G H v w W rv rw Q q => by
  obtain ⟨c, vs, a1, a2, a3⟩ := h1.get W rv
  obtain ⟨d, us, b1, b2, b3⟩ := h2.get W rw
  have hL : Dat (rLst rc) (fun xs => PyData.list (xs.map enc)) (n + 1) (fun xs => ∀ x ∈ xs, good x) := inferInstance
  refine ⟨rEqD K, fun j => by rw [← fam.ka j]; exact op_eqD (by have := (fam.rm j).units; omega), .list (xs.map enc), .list (ys.map enc), by rw [a1]; exact .lst a2 (all2_dp hr W.sub a3), by rw [b1]; exact .lst b2 (all2_dp hr W.sub b3), shp hL hx hn, shp hL hy hn, q _ O _ G H kk W (Ex.refl _) ?_⟩
  refine congrArg V.bl ?_
  by_cases z : xs = ys
  · rw [decide_eq_true z]
    exact (hL.eqv xs ys).mpr z
  · rw [decide_eq_false z]
    exact Bool.eq_false_iff.mpr fun z2 => z ((hL.eqv xs ys).mp z2)
theorem o_neG [fam : Fam F P w K mg base k] {enc : γ → PyData} {n : Nat} {good : γ → Prop} [hr : Dat rc enc n good] [DecidableEq γ] {x : α} {y : β} {xs ys : List γ} [h1 : LsR O ra x rc xs] [h2 : LsR O rb y rc ys] {Ψ : Bool → List Own → Prop} (hx : ∀ z ∈ xs, good z) (hy : ∀ z ∈ ys, good z) (kk : Ψ (!decide (xs = ys)) O) (hn : n + 1 ≤ 64 := by decide) : OW F K B Γ O (compareOp .NotEq) ra rb x y rBool Ψ := fun σ G H v w W rv rw Q q => by
  obtain ⟨c, vs, a1, a2, a3⟩ := h1.get W rv
  obtain ⟨d, us, b1, b2, b3⟩ := h2.get W rw
  have hL : Dat (rLst rc) (fun xs => PyData.list (xs.map enc)) (n + 1) (fun xs => ∀ x ∈ xs, good x) := inferInstance
  refine ⟨rNeD K, fun j => by rw [← fam.ka j]; exact op_neD (by have := (fam.rm j).units; omega), .list (xs.map enc), .list (ys.map enc), by rw [a1]; exact .lst a2 (all2_dp hr W.sub a3), by rw [b1]; exact .lst b2 (all2_dp hr W.sub b3), shp hL hx hn, shp hL hy hn, q _ O _ G H kk W (Ex.refl _) ?_⟩
  refine congrArg (fun b => V.bl (!b)) ?_
  by_cases z : xs = ys
  · rw [decide_eq_true z]
    exact (hL.eqv xs ys).mpr z
  · rw [decide_eq_false z]
    exact Bool.eq_false_iff.mpr fun z2 => z ((hL.eqv xs ys).mp z2)
/-! ### a thing or None -/
class NotNon (r : Rp α) : Prop where
  ne : ∀ {K : Fg} {G : Hp} {v : V} {x : α}, r.rep K G v x → v ≠ .non
instance : NotNon rInt := ⟨fun h z => by rw [show _ = V.int _ from h] at z; cases z⟩
instance : NotNon rBool := ⟨fun h z => by rw [show _ = V.bl _ from h] at z; cases z⟩
instance : NotNon rStr := ⟨fun h z => by rw [show _ = V.str _ from h] at z; cases z⟩
instance {r : Rp α} : NotNon (rLst r) := ⟨fun ⟨a, _, h, _⟩ z => by rw [h] at z; cases z⟩
instance {r : Rp α} : NotNon (rSeq r) := ⟨fun ⟨a, _, h, _⟩ z => by rw [h] at z; cases z⟩
instance {r : Rp α} : NotNon (rTpv r) := ⟨fun ⟨a, _, h, _⟩ z => by rw [h] at z; cases z⟩
instance {f : RpF α} : NotNon (rTup f) := ⟨fun ⟨a, _, h, _⟩ z => by rw [h] at z; cases z⟩
instance {ns : List Str} {f : RpF α} : NotNon (rRec ns f) := ⟨fun ⟨a, _, h, _⟩ z => by rw [h] at z; cases z⟩
theorem opt_some {r : Rp α} [hn : NotNon r] {K : Fg} {G : Hp} {v : V} {x : α} (h : r.rep K G v x) : (rOpt r).rep K G v (some x) := ⟨hn.ne h, h⟩
theorem d_some [hn : NotNon ra] {Φ : Option α → List Own → Prop} (h : DW F K B Γ O e ra fun x O' => Φ (some x) O') : DW F K B Γ O e (rOpt ra) Φ := fun σ G H W Q q =>
  h σ G H W Q fun x O' v G' H' kk W' e' hv => q (some x) O' v G' H' kk W' e' (opt_some hv)
end
section
variable {X : Cx} {K : Fg} {B : Bs} {Γ Γ' : Gm} {O O' : List Own} {α β γ : Type} {ra : Rp α} {rb : Rp β} {rc : Rp γ} {D : Ends} {rest : List Stmt} {e o i : Expr} {pos tpos : Pos}
variable {P : Program} {w : World} {mg : Str → Option Value} {base : Heap} {k : Nat}
/-- a slot seen as another kind of thing -/
theorem s_re (j : Nat) {x : α} {y : β} {f : Option Slot → Gm} [hA : At Γ j ra x] [hg : SetG Γ j f] (hc : ∀ {K : Fg} {G : Hp} {v : V}, ra.rep K G v x → rb.rep K G v y) (h : DS X K B (f (some ⟨rb, y⟩)) O rest D) : DS X K B Γ O rest D := fun σ G H W => by
  obtain ⟨u, h3, h4⟩ := W.env.get hA.get
  have W3 := W.set (s := ⟨rb, y⟩) j (u := u) (hc h4)
  have e2 : σ.set j (some u) = σ := by
    refine List.ext_getElem? fun l => ?_
    by_cases hj : j = l
    · subst hj
      rw [List.getElem?_set_self (List.getElem?_eq_some_iff.mp h3).1, h3]
    · rw [List.getElem?_set_ne hj]
  rw [e2, ← hg.eq] at W3
  exact h σ G H W3
/-- a slot that is not None -/
theorem s_some (j : Nat) {x : α} {f : Option Slot → Gm} [hA : At Γ j (rOpt ra) (some x)] [hg : SetG Γ j f] (h : DS X K B (f (some ⟨ra, x⟩)) O rest D) : DS X K B Γ O rest D := s_re (ra := rOpt ra) (x := some x) (rb := ra) j (fun h => h.2) h
/-- own list [i] = e -/
theorem s_setI [fam : Fam (Us X) P w K mg base k] (h : DW (Us X) K B Γ O e rc fun y O1 => DW (Us X) K B Γ O1 o rAdr fun q O2 => DW (Us X) K B Γ O2 i rInt fun n O3 => ∃ xs f, OwnAt O3 q (oLst rc) xs f ∧ (0 ≤ n ∧ n < (xs.length : Int)) ∧ DS X K B Γ (f ⟨q, oLst rc, xs.set n.toNat y⟩) rest D)
    (hs : swapsWithSole [.Subscript o i tpos] e pos.line X.env = pure false := by rfl) (hw : swappedStores [.Subscript o i tpos] e X.env = pure none := by rfl)
    (h1 : (assignEach [.Subscript o i tpos] X.env).map (·.2) = [assign (.Subscript o i tpos) X.env] := by rfl)
    (ha : ∀ v, assign (.Subscript o i tpos) X.env v = (do
      let ov ← holding [v] (eval o X.env)
      let iv ← holding [v, ov] (eval i X.env)
      standAt tpos
      holding [v, ov, iv] (setItem ov iv v)
      release [v, ov, iv] []) := by intro _; rfl) : DS X K B Γ O (.Assign [.Subscript o i tpos] e pos :: rest) D := by
  intro σ G H W
  refine WSs.cons (ps_asg (te := WE (Us X) e) (WE.pe (F := Us X) ()) (pg_sub (WE.pe (F := Us X) ()) (WE.pe (F := Us X) ()) set_list ha) hs hw h1) ?_
  refine h σ G H W _ fun y O1 v G1 H1 k1 W1 e1 r1 => ?_
  refine k1 σ G1 H1 W1 _ fun q O2 u G2 H2 k2 W2 e2 r2 => ?_
  refine k2 σ G2 H2 W2 _ fun n O3 z G3 H3 ⟨xs, f, hO, hn, kk⟩ W3 e3 r3 => ?_
  obtain ⟨ob, h2, ws, h3, h4⟩ := W3.ownO hO
  subst h3
  refine ⟨q, ws, n, n.toNat, r2, r3, h2, atI_ok hn.1 (by rw [h4.length]; exact hn.2), ?_⟩
  exact kk σ G3 _ (W3.mutO (h := hO) (r' := oLst rc) (x' := xs.set n.toNat y) ⟨_, rfl, h4.set (rc.mono (e2.trans e3) r1) n.toNat⟩)
end
/-! ### a parameter that is an own object, with what it holds -/
def rGh {β : Type} : Rp (Addr × β) := ⟨fun _ _ v x => v = .ref x.1, fun _ h => h⟩
section
variable {ι : Type} {F : ι → Cx} {X : Cx} {K : Fg} {B : Bs} {Γ : Gm} {O : List Own} {β : Type} {D : Ends} {rest : List Stmt} {e : Expr}
theorem d_gh (y : β) {Φ : Addr × β → List Own → Prop} (h : DW F K B Γ O e rAdr fun q O1 => Φ (q, y) O1) : DW F K B Γ O e rGh Φ := fun σ G H W Q q => h σ G H W Q fun x O' v G' H' kk W' e' hv => q (x, y) O' v G' H' kk W' e' hv
theorem s_gh (j : Nat) {x : Addr × β} {f : Option Slot → Gm} [hA : At Γ j (rGh (β := β)) x] [hg : SetG Γ j f] (h : DS X K B (f (some ⟨rAdr, x.1⟩)) O rest D) : DS X K B Γ O rest D := s_re (ra := rGh (β := β)) (x := x) (rb := rAdr) (y := x.1) j (fun h => h) h
end
/-! ### promises that keep one own object and hand out others -/
section
variable {K : Fg} {B : Bs} {Γ : Gm} {O : List Own} {α β γ : Type} {ra : RpF α} {rb : Rp β} {pre : α → Prop} {T : List Addr}
theorem sw_g {x : α} {q : Addr} {δ : Type} {r : Ow δ} {d : δ} {f : Own → List Own} {own : α → Own} {post : α → β → List Own → Prop} {Φ : β → List Own → Prop} [ho : OwnAt O q r d f] (hp : pre x) (h : ∀ y O', post x y O' → ∃ L, O' = L ++ [own x] ∧ Φ y (L ++ O)) (e : own x = ⟨q, r, d⟩ := by rfl)
    (hT : ∀ P ∈ T, P ∈ B.T := by first | exact fun _ h => h | (intro _ h; cases h)) : SW K B Γ O (spM K T ra pre (fun x => [own x]) rb post) [] ra x rb Φ := by
  obtain ⟨j, h1, _⟩ := ho.at_
  have hl : j < O.length := (List.getElem?_eq_some_iff.mp h1).1
  have hg : O[j] = own x := by
    rw [e]
    exact (List.getElem?_eq_some_iff.mp h1).2
  intro σ G H vs W rv Q q'
  have split : O = O.take j ++ own x :: O.drop (j + 1) := by
    rw [← hg]
    exact (List.take_append_drop j O).symm.trans (by rw [List.drop_eq_getElem_cons hl])
  have perm : ([own x] ++ (O.take j ++ O.drop (j + 1))).Perm O := by
    have p1 : (O.take j ++ own x :: O.drop (j + 1)).Perm (own x :: (O.take j ++ O.drop (j + 1))) := List.perm_middle
    exact p1.symm.trans (by rw [← split])
  refine sw_m (Φ := fun y O' => ∃ L, O' = L ++ [own x] ++ (O.take j ++ O.drop (j + 1)) ∧ Φ y (L ++ O)) (O.take j ++ O.drop (j + 1)) hp (fun v hv => perm.mem_iff.mp hv) (fun z => ((perm.map (·.a)).nodup_iff).mpr z) (fun y O' p => ?_) hT σ G H vs W rv Q fun z O' u G' H' ⟨L, k1, k2⟩ W' e' r' => q' z (L ++ O) u G' H' k2 ?_ e' r'
  · obtain ⟨L, e1, e2⟩ := h y O' p
    exact ⟨L, by rw [e1], e2⟩
  · subst k1
    have perm2 : (L ++ [own x] ++ (O.take j ++ O.drop (j + 1))).Perm (L ++ O) := by
      rw [List.append_assoc]
      exact perm.append_left L
    exact W'.perm (fun v hv => perm2.mem_iff.mpr hv) fun z => ((perm2.map (·.a)).nodup_iff).mp z
/-- one own object kept, a new one handed out -/
abbrev sp1N {δ : Type} (K : Fg) (T : List Addr) (ra : RpF α) (pre : α → Prop) (own : α → Own) (r' : Ow δ) (post : α → δ → Prop) : Sp := spM K T ra pre (fun x => [own x]) rAdr fun x q O' => ∃ d, post x d ∧ O' = [⟨q, r', d⟩, own x]
theorem sw_1N {x : α} {q : Addr} {δ ε : Type} {r : Ow δ} {d : δ} {f : Own → List Own} {own : α → Own} {r' : Ow ε} {post : α → ε → Prop} {Φ : Addr → List Own → Prop} [ho : OwnAt O q r d f] (hp : pre x) (h : ∀ p d', post x d' → Φ p (⟨p, r', d'⟩ :: O)) (e : own x = ⟨q, r, d⟩ := by rfl)
    (hT : ∀ P ∈ T, P ∈ B.T := by first | exact fun _ h => h | (intro _ h; cases h)) : SW K B Γ O (sp1N K T ra pre own r' post) [] ra x rAdr Φ :=
  sw_g (ho := ho) hp (fun y O' ⟨d', p, e2⟩ => ⟨[⟨y, r', d'⟩], by rw [e2]; rfl, h y d' p⟩) e hT
end
theorem s_sub {X : Cx} {K : Fg} {B : Bs} {Γ : Gm} {O O' : List Own} {D : Ends} {rest : List Stmt} (hs : List.Sublist O' O) (h : DS X K B Γ O' rest D) : DS X K B Γ O rest D := s_own h (fun w hw => hs.subset hw) fun z => z.sublist (hs.map _)
theorem s_perm {X : Cx} {K : Fg} {B : Bs} {Γ : Gm} {O O' : List Own} {D : Ends} {rest : List Stmt} (hs : O'.Perm O) (h : DS X K B Γ O' rest D) : DS X K B Γ O rest D := s_own h (fun w hw => hs.mem_iff.mp hw) fun z => ((hs.map (·.a)).nodup_iff).mpr z
section
variable {X : Cx} {K : Fg} {B : Bs} {Γ : Gm} {O : List Own} {D : Ends} {rest r2 : List Stmt} {pos : Pos} {g : Hp} {N : St → Hp → Prop}
/-- break, continue in a branch -/
theorem s_brkI {δ : Type} {Pv : δ → Prop} {Γf : δ → Gm} {Of : δ → List Own} (h : DS X K B Γ O rest D) : DS X K (B.push g) Γ O (.Break pos :: r2) { LpE X K (B.push g) Pv Γf Of rest D with nx := N } :=
  s_brk fun σ G H W => h σ G H W.unbase
theorem s_contI {δ : Type} {Pv : δ → Prop} {Γf : δ → Gm} {Of : δ → List Own} (d : δ) (h : Pv d) (hw : Wk Γ (Γf d)) (ho : O = Of d) : DS X K B Γ O (.Continue pos :: r2) { LpE X K B Pv Γf Of rest D with nx := N } :=
  s_cont fun σ G H W => ⟨d, G, h, by rw [← ho]; exact W.wk hw⟩
end
end Sk


set_option Elab.async false
set_option linter.all false
set_option maxRecDepth 100000
set_option maxHeartbeats 4100000
/-! Sk11: objects of classes: attributes, making, methods. -/
namespace Sk
open PySem L2 Evl
/-! ### objects -/
def rIns {α : Type} (C : Addr) (ns : List Str) (f : RpF α) : Rp α := ⟨fun K G v x => ∃ a dx vs, v = .ref a ∧ G a = some (.ins C dx (ns.zip vs)) ∧ f.rep K G vs x ∧ vs.length = ns.length,
  fun e ⟨a, dx, vs, h1, h2, h3, h4⟩ => ⟨a, dx, vs, h1, e _ _ h2, f.mono e h3, h4⟩⟩
def oIns {α : Type} (C : Addr) (ns : List Str) (f : RpF α) : Ow α := ⟨fun K G o x => ∃ dx vs, o = .ins C dx (ns.zip vs) ∧ f.rep K G vs x ∧ vs.length = ns.length,
  fun e ⟨dx, vs, h1, h2, h3⟩ => ⟨dx, vs, h1, f.mono e h2, h3⟩⟩
/-- one more value behind -/
def fApp {α β : Type} (f : RpF α) (r : Rp β) : RpF (α × β) := ⟨fun K G vs x => ∃ ws v, vs = ws ++ [v] ∧ f.rep K G ws x.1 ∧ r.rep K G v x.2, fun e ⟨ws, v, h1, h2, h3⟩ => ⟨ws, v, h1, f.mono e h2, r.mono e h3⟩⟩
instance lenApp {α β : Type} {f : RpF α} {r : Rp β} {n : Nat} [h : Len f n] : Len (fApp f r) (n + 1) := ⟨fun ⟨ws, v, h1, h2, _⟩ => by rw [h1, List.length_append, h.len h2]; rfl⟩
section
variable {α β γ δ : Type}
/-- what is an object of the class at C -/
class InsR {α : Type} (O : List Own) (ra : Rp α) (x : α) (C : outParam Addr) (ns : outParam (List Str)) {β : outParam Type} (f : outParam (RpF β)) (y : outParam β) : Prop where
  get : ∀ {K : Fg} {B : Bs} {Γ : Gm} {σ : St} {G H : Hp} {v : V}, Ws K B Γ O σ G H → ra.rep K G v x → ∃ a dx vs, v = .ref a ∧ H a = some (.ins C dx (ns.zip vs)) ∧ f.rep K G vs y ∧ vs.length = ns.length
instance insP {O : List Own} {C : Addr} {ns : List Str} {f : RpF β} {y : β} : InsR O (rIns C ns f) y C ns f y := ⟨fun W ⟨a, dx, vs, h1, h2, h3, h4⟩ => ⟨a, dx, vs, h1, W.sub _ _ h2, h3, h4⟩⟩
instance insO {O : List Own} {C : Addr} {ns : List Str} {f : RpF β} {q : Addr} {y : β} {g : Own → List Own} [h : OwnAt O q (oIns C ns f) y g] : InsR O rAdr q C ns f y := ⟨fun W e => by
  obtain ⟨o, h1, dx, vs, h2, h3, h4⟩ := W.ownO h
  subst h2
  exact ⟨q, dx, vs, e, h1, h3, h4⟩⟩
/-- the class, its attributes' names -/
structure Kl (K : Fg) (C : Addr) (ns : List Str) : Prop where
  c : Cls K C
  na : ∀ f ∈ ns, NoAttr K C f
theorem zip_look {key : Str} : ∀ {ns : List Str} {vs : List V} {i : Nat}, ns.Nodup → ns[i]? = some key → (ns.zip vs).lookup key = vs[i]?
  | [], vs, i, _, e => by simp at e
  | n :: ns, [], i, _, _ => by simp
  | n :: ns, v :: vs, 0, _, e => by
    have e' : n = key := by simpa using e
    subst e'
    simp [List.zip_cons_cons, List.lookup]
  | n :: ns, v :: vs, i + 1, h, e => by
    have e' : ns[i]? = some key := by simpa using e
    have ne : ¬ key = n := fun z => (List.nodup_cons.mp h).1 (z ▸ List.mem_of_getElem? e')
    have eb : (key == n) = false := by simpa using ne
    rw [List.zip_cons_cons, List.lookup_cons, eb, zip_look (List.nodup_cons.mp h).2 e']
    simp
theorem zip_none {key : Str} : ∀ {ns : List Str} {vs : List V}, key ∉ ns → (ns.zip vs).lookup key = none
  | [], vs, _ => by simp
  | n :: ns, [], _ => by simp
  | n :: ns, v :: vs, h => by
    have ne : ¬ key = n := fun z => h (z ▸ List.mem_cons_self)
    have eb : (key == n) = false := by simpa using ne
    rw [List.zip_cons_cons, List.lookup_cons, eb, zip_none (fun z => h (List.mem_cons_of_mem _ z))]
theorem zip_putF {key : Str} {y : V} : ∀ {ns : List Str} {vs : List V} {i : Nat}, ns.Nodup → ns[i]? = some key → i < vs.length → putF key y (ns.zip vs) = ns.zip (vs.set i y)
  | [], vs, i, _, e, _ => by simp at e
  | n :: ns, [], i, _, _, h => by simp at h
  | n :: ns, v :: vs, 0, _, e, _ => by
    have e' : n = key := by simpa using e
    subst e'
    show (if n = n then _ else _) = _
    rw [if_pos rfl]
    rfl
  | n :: ns, v :: vs, i + 1, h, e, hi => by
    have e' : ns[i]? = some key := by simpa using e
    have ne : ¬ n = key := fun z => (List.nodup_cons.mp h).1 (z ▸ List.mem_of_getElem? e')
    show (if n = key then _ else (n, v) :: putF key y (ns.zip vs)) = (n, v) :: ns.zip (vs.set i y)
    rw [if_neg ne, zip_putF (List.nodup_cons.mp h).2 e' (by simpa using hi)]
theorem zip_putF_new {key : Str} {y : V} : ∀ {ns : List Str} {vs : List V}, key ∉ ns → vs.length = ns.length → putF key y (ns.zip vs) = (ns ++ [key]).zip (vs ++ [y])
  | [], [], _, _ => rfl
  | [], _ :: _, _, h => by simp at h
  | n :: ns, [], _, h => by simp at h
  | n :: ns, v :: vs, h, hl => by
    have ne : ¬ n = key := fun z => h (z ▸ List.mem_cons_self)
    show (if n = key then _ else (n, v) :: putF key y (ns.zip vs)) = (n, v) :: (ns ++ [key]).zip (vs ++ [y])
    rw [if_neg ne, zip_putF_new (fun z => h (List.mem_cons_of_mem _ z)) (by simpa using hl)]
/-! the i-th of values with one more behind -/
instance (priority := high) fatL {f : RpF α} {r : Rp β} {n : Nat} [h : Len f n] : FAt (fApp f r) n r (fun x => x.2) := ⟨fun ⟨ws, v, h1, h2, h3⟩ => ⟨v, by rw [h1, ← h.len h2]; simp, h3⟩⟩
theorem fat_app {f : RpF α} {r : Rp β} {i n : Nat} {r' : Rp γ} {g : α → γ} (hl : Len f n) (h : FAt f i r' g) (hi : i < n) : FAt (fApp f r) i r' (fun x => g x.1) := ⟨fun ⟨ws, v, h1, h2, _⟩ => by
  obtain ⟨u, h3, h4⟩ := h.get h2
  exact ⟨u, by rw [h1, List.getElem?_append_left (by rw [hl.len h2]; exact hi)]; exact h3, h4⟩⟩
instance (priority := low) fatI {f : RpF α} {r : Rp β} {i : Nat} {r' : Rp γ} {g : α → γ} [h : FAt f i r' g] : FAt (fApp f r) i r' (fun x => g x.1) := ⟨fun ⟨ws, v, h1, h2, _⟩ => by
  obtain ⟨u, h3, h4⟩ := h.get h2
  exact ⟨u, by rw [h1, List.getElem?_append_left (List.getElem?_eq_some_iff.mp h3).1]; exact h3, h4⟩⟩
variable {ι : Type} {F : ι → Cx} {K : Fg} {B : Bs} {Γ : Gm} {O : List Own} {ra : Rp α} {rb : Rp β} {rc : Rp γ} {e o : Expr} {es : List Expr} {pos p apos pos2 : Pos} {n : Str} {C : Addr} {ns : List Str} {f : RpF δ}
variable {P : Program} {w : World} {mg : Str → Option Value} {base : Heap} {k : Nat}
/-- o.key -/
theorem d_fld [fam : Fam F P w K mg base k] {key : Str} (kl : Kl K C ns) (i : Nat) {r : Rp β} {g : δ → β} [hf : FAt f i r g] {Φ : β → List Own → Prop} (hk : ns[i]? = some key) (hn : ns.Nodup)
    (h : DW F K B Γ O o ra fun x O1 => ∃ y, InsR O1 ra x C ns f y ∧ Φ (g y) O1) (hb : ∀ j, attributeBase o key (F j).env (eval o (F j).env) = eval o (F j).env := by intro _; rfl) : DW F K B Γ O (.Attribute o key pos) r Φ := by
  intro σ G H W Q q
  refine ⟨tFld K (WE F o) key, fun j => by rw [← fam.ka j]; exact pe_fld (WE.pe j) (hb j), ?_⟩
  refine h σ G H W _ fun x O1 v G1 H1 ⟨y, hI, kk⟩ W1 e1 r1 => ?_
  obtain ⟨a, dx, vs, h1, h2, h3, h4⟩ := hI.get W1 r1
  obtain ⟨u, h5, h6⟩ := hf.get h3
  exact ⟨a, C, dx, _, u, h1, h2, kl.c, kl.na key (List.mem_of_getElem? hk), by rw [zip_look hn hk]; exact h5, q _ O1 u G1 H1 kk W1 e1 h6⟩
/-- the value at the i-th place -/
class FV {α : Type} (f : RpF α) (y : α) (i : Nat) {β : outParam Type} (r : outParam (Rp β)) (z : outParam β) : Prop where
  get : ∀ {K : Fg} {G : Hp} {vs : List V}, f.rep K G vs y → ∃ v, vs[i]? = some v ∧ r.rep K G v z
instance fvOf {f : RpF δ} {y : δ} {i : Nat} {r : Rp β} {g : δ → β} [h : FAt f i r g] : FV f y i r (g y) := ⟨fun q => h.get q⟩
/-- the same, the object a name's -/
theorem d_fldV [fam : Fam F P w K mg base k] {key : Str} (kl : Kl K C ns) (iv i : Nat) {x : α} {y : δ} {r : Rp β} {z : β} [hA : At Γ iv ra x] [hI : InsR O ra x C ns f y] [hf : FV f y i r z] {Φ : β → List Own → Prop} (hk : ns[i]? = some key) (hn : ns.Nodup) (kk : Φ z O)
    (hN : ∀ j, (F j).N[iv]? = some n := by intro _; rfl) (hv : ∀ j, Vis (F j).env.scope n := by intro _; first | exact Or.inl rfl | exact Or.inr (Or.inl rfl) | exact Or.inr (Or.inr rfl)) (hd : (n == ("__debug__" : Str)) = false := by decide)
    (hcd : (n == ("__classdict__" : Str)) = false := by decide) (hb : ∀ j, attributeBase (.Name n pos2) key (F j).env (eval (.Name n pos2) (F j).env) = eval (.Name n pos2) (F j).env := by intro _; rfl) : DW F K B Γ O (.Attribute (.Name n pos2) key pos) r Φ := by
  intro σ G H W Q q
  refine ⟨tFld K (WE F (.Name n pos2)) key, fun j => by rw [← fam.ka j]; exact pe_fld (WE.pe j) (hb j), ?_⟩
  refine d_var (F := F) iv (Φ := fun x' O1 => x' = x ∧ O1 = O) ⟨rfl, rfl⟩ hN hv hd hcd σ G H W _ fun x' O1 v G1 H1 ⟨e1, e2⟩ W1 ex r1 => ?_
  subst e1 e2
  obtain ⟨a, dx, vs, h1, h2, h3, h4⟩ := hI.get W1 r1
  obtain ⟨u, h5, h6⟩ := hf.get h3
  exact ⟨a, C, dx, _, u, h1, h2, kl.c, kl.na key (List.mem_of_getElem? hk), by rw [zip_look hn hk]; exact h5, q _ O1 u G1 H1 kk W1 ex h6⟩
/-! ### methods -/
/-- a method of the class at C -/
structure Md (K : Fg) (C : Addr) (m qual : Str) (st : Stmt) (ps : List Str) where
  f : Addr
  fd : FuncData
  F : Fun K m qual st f fd
  me : Meth K C m f
  b : Binds K fd ps []
theorem d_meth [fam : Fam F P w K mg base k] {j : Nat} {m qual : Str} {st : Stmt} {ps : List Str} {sp : Sp} (kl : Kl K C ns) (D : Md K C m qual st ps) (G : FnOk P w K mg base CX0 j D.f D.fd ps sp) {g : RpF β} {pl : ι → Sem Bool} {Φ : γ → List Own → Prop}
    (h : DW F K B Γ O o ra fun x O1 => ∃ y, InsR O1 ra x C ns f y ∧ DA F K B Γ O1 (e :: es) g fun z O2 => SW K B Γ O2 sp [] (fCons ra g) (x, z) rc Φ) (hm : m ∉ ns := by decide +kernel) (hj : j ≤ k := by decide)
    (he : ∀ i, starEach (e :: es) (F i).env = (false, eval e (F i).env) :: starEach es (F i).env := by intro _; rfl) (hpl : ∀ i, (backTo pos (starEach es (F i).env)).any (·.1) = false := by intro _; rfl)
    (ht : ∀ i, eval (.Call (.Attribute o m apos) (e :: es) [] pos) (F i).env = (do
      let ov ← eval o (F i).env
      standAt apos.atName
      let (f, first) ← holding [ov] (getMethod ov m (pl i))
      callWith pos f first (backTo pos (starEach (e :: es) (F i).env)) (backToKw pos (keywordEach [] (F i).env))) := by intro _; rfl) :
    DW F K B Γ O (.Call (.Attribute o m apos) (e :: es) [] pos) rc Φ := by
  intro σ G' H W Q q
  refine ⟨tMeth C m sp [] E0 (WE F o) (WA F (e :: es)), fun i => ?_, ?_⟩
  · have h1 := fam.pr i
    have h2 := fam.wd i
    have h3 := fam.ka i
    have h4 := fam.mg i
    have h5 := fam.bs i
    have G2 : FnOk (F i).prog (F i).w (F i).K (F i).mg (F i).base CX0 j D.f D.fd ps sp := by rw [h1, h2, h3, h4, h5]; exact G
    have c2 : Cls (F i).K C := by rw [h3]; exact kl.c
    have m2 : Meth (F i).K C m D.f := by rw [h3]; exact D.me
    have b2 : Binds (F i).K D.fd ps [] := by rw [h3]; exact D.b
    exact pe_meth (pl := pl i) (WE.pe i) c2 m2 G2 ((fam.rm i).mono hj) b2 .nil pass0 (WA.pa i) (he i) (hpl i) (ht i)
  · refine h σ G' H W _ fun x O1 v G1 H1 ⟨y, hI, k1⟩ W1 e1 r1 => ?_
    obtain ⟨a, dx, vs, h1, h2, h3, h4⟩ := hI.get W1 r1
    refine ⟨a, dx, _, h1, h2, zip_none hm, ?_⟩
    refine k1 σ G1 H1 W1 _ fun z O2 us G2 H2 k2 W2 e2 r2 => ?_
    have z2 := k2 σ G2 H2 (v :: us) W2 ⟨v, us, rfl, ra.mono e2 r1, r2⟩ Q fun y O' u G3 H3 k3 W3 e3 r3 => q y O' u G3 H3 k3 W3 ((e1.trans e2).trans e3) r3
    rw [List.append_nil] at z2 ⊢
    exact z2
theorem d_meth0 [fam : Fam F P w K mg base k] {j : Nat} {m qual : Str} {st : Stmt} {ps : List Str} {sp : Sp} (kl : Kl K C ns) (D : Md K C m qual st ps) (G : FnOk P w K mg base CX0 j D.f D.fd ps sp) {pl : ι → Sem Bool} {Φ : γ → List Own → Prop}
    (h : DW F K B Γ O o ra fun x O1 => ∃ y, InsR O1 ra x C ns f y ∧ SW K B Γ O1 sp [] (fOne ra) x rc Φ) (hm : m ∉ ns := by decide +kernel) (hj : j ≤ k := by decide)
    (ht : ∀ i, eval (.Call (.Attribute o m apos) [] [] pos) (F i).env = (do
      let ov ← eval o (F i).env
      standAt apos.atName
      let (f, first) ← holding [ov] (getMethod ov m (pl i))
      callWith pos f first (backTo pos (starEach [] (F i).env)) (backToKw pos (keywordEach [] (F i).env))) := by intro _; rfl) :
    DW F K B Γ O (.Call (.Attribute o m apos) [] [] pos) rc Φ := by
  intro σ G' H W Q q
  refine ⟨tMeth C m sp [] E0 (WE F o) tNil, fun i => ?_, ?_⟩
  · have h1 := fam.pr i
    have h2 := fam.wd i
    have h3 := fam.ka i
    have h4 := fam.mg i
    have h5 := fam.bs i
    have G2 : FnOk (F i).prog (F i).w (F i).K (F i).mg (F i).base CX0 j D.f D.fd ps sp := by rw [h1, h2, h3, h4, h5]; exact G
    have c2 : Cls (F i).K C := by rw [h3]; exact kl.c
    have m2 : Meth (F i).K C m D.f := by rw [h3]; exact D.me
    have b2 : Binds (F i).K D.fd ps [] := by rw [h3]; exact D.b
    exact pe_meth0 (pl := pl i) (WE.pe i) c2 m2 G2 ((fam.rm i).mono hj) b2 .nil pass0 (ht i)
  · refine h σ G' H W _ fun x O1 v G1 H1 ⟨y, hI, k1⟩ W1 e1 r1 => ?_
    obtain ⟨a, dx, vs, h1, h2, h3, h4⟩ := hI.get W1 r1
    refine ⟨a, dx, _, h1, h2, zip_none hm, ?_⟩
    exact k1 σ G1 H1 [v] W1 ⟨v, rfl, r1⟩ Q fun y O' u G3 H3 k3 W3 e3 r3 => q y O' u G3 H3 k3 W3 (e1.trans e3) r3
/-! ### making -/
/-- a class that is made by its name -/
structure Ck (K : Fg) (mg : Str → Option Value) (n : Str) (C : Addr) (qual : Str) (st : Stmt) (ps : List Str) where
  f : Addr
  fd : FuncData
  F : Fun K "__init__" qual st f fd
  m : mg n = some (.ref C)
  mkr : Mk K C f
  b : Binds K fd ps []
abbrev oNew (C : Addr) : Ow Unit := oIns C [] fNil
theorem Ws.hid {σ : St} {G H : Hp} {dx : Addr} {o : HO} (W : Ws K B Γ O σ G H) (hp : H dx = none) : Ws K B Γ O σ G (upd H dx o) := W.step (Stp.newOwn W.sub hp)
theorem d_make [fam : Fam F P w K mg base k] {j : Nat} {qual : Str} {st : Stmt} {ps : List Str} {sp : Sp} (D : Ck K mg n C qual st ps) (G : FnOk P w K mg base CX0 j D.f D.fd ps sp) {g : RpF β} {Φ : Addr → List Own → Prop}
    (h : DA F K B Γ O (e :: es) g fun z O1 => ∀ q, q ∉ B.M → SW K B Γ (⟨q, oNew C, ()⟩ :: O1) sp [] (fCons rAdr g) (q, z) rNon fun _ O' => Φ q O') (hj : j + 1 ≤ k := by decide)
    (hdb : (n == ("__debug__" : Str)) = false := by decide) (hg : ∀ i, Gl (F i) n := by intro _; rfl)
    (he : ∀ i, starEach (e :: es) (F i).env = (false, eval e (F i).env) :: starEach es (F i).env := by intro _; rfl) (hpl : ∀ i, (backTo pos (starEach es (F i).env)).any (·.1) = false := by intro _; rfl) :
    DW F K B Γ O (.Call (.Name n p) (e :: es) [] pos) rAdr Φ := by
  intro σ G' H W Q q
  refine ⟨tMake C sp [] E0 (WA F (e :: es)), fun i => ?_, ?_⟩
  · have h1 := fam.pr i
    have h2 := fam.wd i
    have h3 := fam.ka i
    have h4 := fam.mg i
    have h5 := fam.bs i
    have G2 : FnOk (F i).prog (F i).w (F i).K (F i).mg (F i).base CX0 j D.f D.fd ps sp := by rw [h1, h2, h3, h4, h5]; exact G
    have m2 : (F i).mg n = some (.ref C) := by rw [h4]; exact D.m
    have k2 : Mk (F i).K C D.f := by rw [h3]; exact D.mkr
    have b2 : Binds (F i).K D.fd ps [] := by rw [h3]; exact D.b
    exact pe_make k2 G2 ((fam.rm i).mono hj) (hg i) m2 b2 .nil pass0 (WA.pa i) hdb (he i) (hpl i)
  · refine h σ G' H W _ fun z O1 us G1 H1 k1 W1 e1 r1 => ?_
    intro x dx hx hdx hne
    have W2 := W1.hid (o := .own x) hdx
    have hx2 : upd H1 dx (.own x) x = none := by rw [upd_ne hne.symm]; exact hx
    have W3 := W2.newOwn hx2 (r := oNew C) (x := ()) (o := .ins C dx []) ⟨dx, [], rfl, rfl, rfl⟩
    have z2 := k1 x (W1.notM hx) σ G1 _ (.ref x :: us) W3 ⟨.ref x, us, rfl, rfl, r1⟩ (fun v H2 => v = .non ∧ Q (.ref x) H2) fun y O' u G3 H3 k3 W4 e3 r3 => ⟨r3, q x O' (.ref x) G3 H3 k3 W4 (e1.trans e3) rfl⟩
    rw [List.append_nil] at z2 ⊢
    exact z2
end
/-! ### attributes are written -/
section
variable {X : Cx} {K : Fg} {B : Bs} {Γ Γ' : Gm} {O O' : List Own} {α β γ δ : Type} {ra : Rp α} {rb : Rp β} {rc : Rp γ} {D : Ends} {rest : List Stmt} {e o i : Expr} {pos tpos : Pos} {C : Addr} {ns : List Str} {f : RpF δ} {key : Str}
variable {P : Program} {w : World} {mg : Str → Option Value} {base : Heap} {k : Nat}
/-- o.key = e, an own object that has the attribute -/
theorem s_fld [fam : Fam (Us X) P w K mg base k] (kl : Kl K C ns) (j : Nat) {r : Rp β} {g : δ → β → δ} [hf : FSet f j r g] (hk : ns[j]? = some key) (hn : ns.Nodup)
    (h : DW (Us X) K B Γ O e r fun y O1 => DW (Us X) K B Γ O1 o rAdr fun q O2 => ∃ x u, OwnAt O2 q (oIns C ns f) x u ∧ DS X K B Γ (u ⟨q, oIns C ns f, g x y⟩) rest D) (hz : ns.length < 1000 := by decide)
    (hs : swapsWith e (some (.Attribute o key tpos)) pos.line X.env = pure false := by rfl) : DS X K B Γ O (.Assign [.Attribute o key tpos] e pos :: rest) D := by
  intro σ G H W
  refine WSs.cons (ps_fld (tv := WE (Us X) e) (ta := WE (Us X) o) (WE.pe (F := Us X) ()) (WE.pe (F := Us X) ()) hs) ?_
  refine h σ G H W _ fun y O1 v G1 H1 k1 W1 e1 r1 => ?_
  refine k1 σ G1 H1 W1 _ fun q O2 u G2 H2 ⟨x, fo, hO, kk⟩ W2 e2 r2 => ?_
  obtain ⟨ob, h1, dx, vs, h2, h3, h4⟩ := W2.ownO hO
  subst h2
  have hlt : j < vs.length := by rw [h4]; exact (List.getElem?_eq_some_iff.mp hk).1
  have cl : Cls X.K C := by rw [fam.ka ()]; exact kl.c
  have na : NoAttr X.K C key := by rw [fam.ka ()]; exact kl.na key (List.mem_of_getElem? hk)
  refine ⟨q, C, dx, _, r2, h1, cl, na, ?_, ?_⟩
  · rw [List.length_zip, h4, Nat.min_self]
    exact hz
  · exact kk σ G2 _ (W2.mutO (h := hO) (r' := oIns C ns f) (x' := g x y) ⟨dx, vs.set j v, by rw [zip_putF hn hk hlt], hf.set h3 (r.mono e2 r1), by rw [List.length_set]; exact h4⟩)
/-- o.key = e, an own object that has not got it yet -/
theorem s_fldN [fam : Fam (Us X) P w K mg base k] (kl : Kl K C (ns ++ [key])) {r : Rp β}
    (h : DW (Us X) K B Γ O e r fun y O1 => DW (Us X) K B Γ O1 o rAdr fun q O2 => ∃ x u, OwnAt O2 q (oIns C ns f) x u ∧ DS X K B Γ (u ⟨q, oIns C (ns ++ [key]) (fApp f r), (x, y)⟩) rest D) (hn : key ∉ ns := by decide +kernel) (hz : ns.length < 1000 := by decide)
    (hs : swapsWith e (some (.Attribute o key tpos)) pos.line X.env = pure false := by rfl) : DS X K B Γ O (.Assign [.Attribute o key tpos] e pos :: rest) D := by
  intro σ G H W
  refine WSs.cons (ps_fld (tv := WE (Us X) e) (ta := WE (Us X) o) (WE.pe (F := Us X) ()) (WE.pe (F := Us X) ()) hs) ?_
  refine h σ G H W _ fun y O1 v G1 H1 k1 W1 e1 r1 => ?_
  refine k1 σ G1 H1 W1 _ fun q O2 u G2 H2 ⟨x, fo, hO, kk⟩ W2 e2 r2 => ?_
  obtain ⟨ob, h1, dx, vs, h2, h3, h4⟩ := W2.ownO hO
  subst h2
  have cl : Cls X.K C := by rw [fam.ka ()]; exact kl.c
  have na : NoAttr X.K C key := by rw [fam.ka ()]; exact kl.na key (by simp)
  refine ⟨q, C, dx, _, r2, h1, cl, na, ?_, ?_⟩
  · rw [List.length_zip, h4, Nat.min_self]
    exact hz
  · exact kk σ G2 _ (W2.mutO (h := hO) (r' := oIns C (ns ++ [key]) (fApp f r)) (x' := (x, y)) ⟨dx, vs ++ [v], by rw [zip_putF_new hn h4], ⟨vs, v, rfl, h3, r.mono e2 r1⟩, by rw [List.length_append, List.length_append, h4]; rfl⟩)
/-- an own object seen as another kind -/
theorem s_view {q : Addr} {r : Ow α} {x : α} {r' : Ow β} {x' : β} {u : Own → List Own} (hO : OwnAt O q r x u) (hc : ∀ {K : Fg} {G : Hp} {o : HO}, r.rep K G o x → r'.rep K G o x') (h : DS X K B Γ (u ⟨q, r', x'⟩) rest D) : DS X K B Γ O rest D := fun σ G H W => by
  obtain ⟨o, h1, h2⟩ := W.ownO hO
  have W2 := W.mutO (h := hO) (o := o) (r' := r') (x' := x') (hc h2)
  have e : upd H q o = H := by
    funext b
    by_cases hb : b = q
    · rw [hb, upd_same, h1]
    · rw [upd_ne hb]
  rw [e] at W2
  exact h σ G H W2
/-- an own list of an own object is done: the object holds it as a list -/
theorem s_frzIn {q p : Addr} {r : Rp β} {xs : List β} {wo : Ow α} {x : α} {wo' : Ow γ} {x' : γ} {u : Own → List Own} (hM : q ∉ B.M) (hO : OwnAt O p wo x u) (hc : ∀ {K : Fg} {G : Hp} {o : HO}, (rLst r).rep K G (.ref q) xs → wo.rep K G o x → wo'.rep K G o x')
    (h : DS X K B Γ (u ⟨p, wo', x'⟩) rest D) : DS X K B Γ (⟨q, oLst r, xs⟩ :: O) rest D := fun σ G H W => by
  obtain ⟨o, ⟨ws, h1, h2⟩, W2, e⟩ := W.frz hM
  subst h1
  have hq : (rLst r).rep K (upd G q (.lst ws)) (.ref q) xs := ⟨q, ws, rfl, upd_same, h2.mono fun _ _ z => r.mono e z⟩
  obtain ⟨ob, h3, h4⟩ := W2.ownO hO
  have W3 := W2.mutO (h := hO) (o := ob) (r' := wo') (x' := x') (hc hq h4)
  have e2 : upd H p ob = H := by
    funext b
    by_cases hb : b = p
    · rw [hb, upd_same, h3]
    · rw [upd_ne hb]
  rw [e2] at W3
  exact h σ _ H W3
/-- an own object is done -/
theorem s_frzO (j : Nat) {q : Addr} {x : δ} {fs : Option Slot → Gm} [hA : At Γ j rAdr q] [hg : SetG Γ j fs] (hM : q ∉ B.M) (h : DS X K B (fs (some ⟨rIns C ns f, x⟩)) O rest D) : DS X K B Γ (⟨q, oIns C ns f, x⟩ :: O) rest D := fun σ G H W => by
  obtain ⟨o, ⟨dx, vs, h1, h2, h5⟩, W2, e⟩ := W.frz hM
  subst h1
  obtain ⟨u, h3, h4⟩ := W2.env.get hA.get
  have W3 := W2.set (s := ⟨rIns C ns f, x⟩) j (u := u) ⟨q, dx, vs, h4, upd_same, f.mono e h2, h5⟩
  have e2 : σ.set j (some u) = σ := by
    refine List.ext_getElem? fun l => ?_
    by_cases hj : j = l
    · subst hj
      rw [List.getElem?_set_self (List.getElem?_eq_some_iff.mp h3).1, h3]
    · rw [List.getElem?_set_ne hj]
  rw [e2, ← hg.eq] at W3
  exact h σ _ H W3
theorem rt_frzO {q : Addr} {x : δ} (hM : q ∉ B.M) (h : RT K B Γ O (rIns C ns f) x D) : RT K B Γ (⟨q, oIns C ns f, x⟩ :: O) rAdr q D := fun v σ G H W r => by
  obtain ⟨o, ⟨dx, vs, h1, h2, h5⟩, W2, e⟩ := W.frz hM
  subst h1
  exact h v σ _ H W2 ⟨q, dx, vs, r, upd_same, f.mono e h2, h5⟩
end
section
variable {ι : Type} {F : ι → Cx} {K : Fg} {B : Bs} {Γ : Gm} {O : List Own} {δ : Type} {e : Expr} {C : Addr} {ns : List Str} {f : RpF δ}
/-- the same, behind an expression that gives it -/
theorem d_frzO {Φ : δ → List Own → Prop} (h : DW F K B Γ O e rAdr fun q O1 => ∃ x O2, O1 = ⟨q, oIns C ns f, x⟩ :: O2 ∧ q ∉ B.M ∧ Φ x O2) : DW F K B Γ O e (rIns C ns f) Φ := fun σ G H W Q q =>
  h σ G H W Q fun c O1 v G1 H1 ⟨x, O2, e1, hM, kk⟩ W1 e2 r1 => by
    subst e1
    obtain ⟨o, ⟨dx, vs, h1, h2, h5⟩, W2, e⟩ := W1.frz hM
    subst h1
    exact q x O2 v _ H1 kk W2 (e2.trans e) ⟨c, dx, vs, r1, upd_same, f.mono e h2, h5⟩
end
end Sk


set_option Elab.async false
set_option linter.all false
set_option maxRecDepth 100000
set_option maxHeartbeats 4100000
/-! Sk12: dicts by any keys, texts, zip and enumerate, things that are done. -/
namespace Sk
open PySem L2 Evl
/-! ### tables -/
section
variable {κ : Type} [DecidableEq κ] {α : Type}
def valX (xs : List (κ × α)) (k : κ) : Option α := (xs.find? fun p => decide (p.1 = k)).map (·.2)
def putX (xs : List (κ × α)) (k : κ) (x : α) : List (κ × α) := if (xs.any fun p => decide (p.1 = k)) = true then xs.map (fun p => if p.1 = k then (p.1, x) else p) else xs ++ [(k, x)]
def DicR (p : V → α → Prop) : List (κ × V) → List (κ × α) → Prop
  | [], [] => True
  | u :: r, x :: s => u.1 = x.1 ∧ p u.2 x.2 ∧ DicR p r s
  | _, _ => False
theorem DicR.mono {p q : V → α → Prop} (h : ∀ v x, p v x → q v x) : ∀ {kvs : List (κ × V)} {xs : List (κ × α)}, DicR p kvs xs → DicR q kvs xs
  | [], [], _ => trivial
  | _ :: _, _ :: _, ⟨a, b, c⟩ => ⟨a, h _ _ b, DicR.mono h c⟩
  | [], _ :: _, z => z
  | _ :: _, [], z => z
theorem DicR.length {p : V → α → Prop} : ∀ {kvs : List (κ × V)} {xs : List (κ × α)}, DicR p kvs xs → kvs.length = xs.length
  | [], [], _ => rfl
  | _ :: r, _ :: s, ⟨_, _, c⟩ => by rw [List.length_cons, List.length_cons, DicR.length c]
  | [], _ :: _, z => z.elim
  | _ :: _, [], z => z.elim
theorem DicR.val {p : V → α → Prop} (k : κ) : ∀ {kvs : List (κ × V)} {xs : List (κ × α)}, DicR p kvs xs → match valX xs k with
    | some x => ∃ v, valV kvs k = some v ∧ p v x
    | none => valV kvs k = none
  | [], [], _ => rfl
  | u :: r, x :: s, ⟨a, b, c⟩ => by
    by_cases h : x.1 = k
    · have e : valX (x :: s) k = some x.2 := by simp [valX, h]
      rw [e]
      exact ⟨u.2, valV_pos (a.trans h), b⟩
    · have e : valX (x :: s) k = valX s k := by simp [valX, h]
      rw [e]
      have ih := DicR.val k c
      have e2 : valV (u :: r) k = valV r k := valV_neg (fun z => h (a.symm.trans z))
      rw [e2]
      exact ih
  | [], _ :: _, z => z.elim
  | _ :: _, [], z => z.elim
theorem DicR.val_some {p : V → α → Prop} {k : κ} {kvs : List (κ × V)} {xs : List (κ × α)} {x : α} (h : DicR p kvs xs) (e : valX xs k = some x) : ∃ v, valV kvs k = some v ∧ p v x := by
  have := h.val k
  rw [e] at this
  exact this
theorem DicR.val_none {p : V → α → Prop} {k : κ} {kvs : List (κ × V)} {xs : List (κ × α)} (h : DicR p kvs xs) (e : valX xs k = none) : valV kvs k = none := by
  have := h.val k
  rw [e] at this
  exact this
theorem DicR.isSome {p : V → α → Prop} {k : κ} {kvs : List (κ × V)} {xs : List (κ × α)} (h : DicR p kvs xs) : (valV kvs k).isSome = (valX xs k).isSome := by
  cases e : valX xs k with
  | none =>
    rw [h.val_none e]
    rfl
  | some x =>
    obtain ⟨v, e2, _⟩ := h.val_some e
    rw [e2]
    rfl
theorem DicR.any {p : V → α → Prop} {k : κ} : ∀ {kvs : List (κ × V)} {xs : List (κ × α)}, DicR p kvs xs → (kvs.any fun u => decide (u.1 = k)) = (xs.any fun u => decide (u.1 = k))
  | [], [], _ => rfl
  | u :: r, x :: s, ⟨a, _, c⟩ => by rw [List.any_cons, List.any_cons, DicR.any c, a]
  | [], _ :: _, z => z.elim
  | _ :: _, [], z => z.elim
theorem DicR.append {p : V → α → Prop} : ∀ {kvs : List (κ × V)} {xs : List (κ × α)} {kvs' : List (κ × V)} {xs' : List (κ × α)}, DicR p kvs xs → DicR p kvs' xs' → DicR p (kvs ++ kvs') (xs ++ xs')
  | [], [], _, _, _, h => h
  | _ :: _, _ :: _, _, _, ⟨a, b, c⟩, h => ⟨a, b, DicR.append c h⟩
  | [], _ :: _, _, _, z, _ => z.elim
  | _ :: _, [], _, _, z, _ => z.elim
theorem DicR.over {p : V → α → Prop} {k : κ} {v : V} {x : α} (hp : p v x) : ∀ {kvs : List (κ × V)} {xs : List (κ × α)}, DicR p kvs xs → DicR p (kvs.map fun u => if u.1 = k then (u.1, v) else u) (xs.map fun u => if u.1 = k then (u.1, x) else u)
  | [], [], _ => trivial
  | u :: r, y :: s, ⟨a, b, c⟩ => by
    rw [List.map_cons, List.map_cons]
    refine ⟨?_, ?_, DicR.over hp c⟩
    · by_cases h : y.1 = k
      · rw [if_pos h, if_pos (a.trans h)]
        exact a
      · rw [if_neg h, if_neg (fun z => h (a.symm.trans z))]
        exact a
    · by_cases h : y.1 = k
      · rw [if_pos h, if_pos (a.trans h)]
        exact hp
      · rw [if_neg h, if_neg (fun z => h (a.symm.trans z))]
        exact b
  | [], _ :: _, z => z.elim
  | _ :: _, [], z => z.elim
theorem DicR.put {p : V → α → Prop} {k : κ} {v : V} {x : α} {kvs : List (κ × V)} {xs : List (κ × α)} (h : DicR p kvs xs) (hp : p v x) : DicR p (putK kvs k v) (putX xs k x) := by
  unfold putK putX
  rw [h.any]
  split
  · exact h.over hp
  · exact h.append ⟨rfl, hp, trivial⟩
end
def rDk {α : Type} (r : Rp α) : Rp (List (Key × α)) := ⟨fun K G v xs => ∃ a kvs, v = .ref a ∧ G a = some (.dK kvs) ∧ DicR (r.rep K G) kvs xs, fun e ⟨a, kvs, h1, h2, h3⟩ => ⟨a, kvs, h1, e _ _ h2, h3.mono fun _ _ z => r.mono e z⟩⟩
def rDt {α : Type} (r : Rp α) : Rp (List (List Key × α)) := ⟨fun K G v xs => ∃ a kvs, v = .ref a ∧ G a = some (.dT kvs) ∧ DicR (r.rep K G) kvs xs, fun e ⟨a, kvs, h1, h2, h3⟩ => ⟨a, kvs, h1, e _ _ h2, h3.mono fun _ _ z => r.mono e z⟩⟩
def oDk {α : Type} (r : Rp α) : Ow (List (Key × α)) := ⟨fun K G o xs => ∃ kvs, o = .dK kvs ∧ DicR (r.rep K G) kvs xs, fun e ⟨kvs, h1, h2⟩ => ⟨kvs, h1, h2.mono fun _ _ z => r.mono e z⟩⟩
def oDt {α : Type} (r : Rp α) : Ow (List (List Key × α)) := ⟨fun K G o xs => ∃ kvs, o = .dT kvs ∧ DicR (r.rep K G) kvs xs, fun e ⟨kvs, h1, h2⟩ => ⟨kvs, h1, h2.mono fun _ _ z => r.mono e z⟩⟩
/-- a key; a tuple of keys -/
def rKey : Rp Key := ⟨fun _ _ v k => v = kV k, fun _ h => h⟩
def rTk : Rp (List Key) := ⟨fun _ G v k => ∃ a, v = .ref a ∧ G a = some (.tup (k.map kV)), fun e ⟨a, h1, h2⟩ => ⟨a, h1, e _ _ h2⟩⟩
class DkR {α : Type} (O : List Own) (ra : Rp α) (x : α) {β : outParam Type} (r : outParam (Rp β)) (xs : outParam (List (Key × β))) : Prop where
  get : ∀ {K : Fg} {B : Bs} {Γ : Gm} {σ : St} {G H : Hp} {v : V}, Ws K B Γ O σ G H → ra.rep K G v x → ∃ a kvs, v = .ref a ∧ H a = some (.dK kvs) ∧ DicR (r.rep K G) kvs xs
class DtR {α : Type} (O : List Own) (ra : Rp α) (x : α) {β : outParam Type} (r : outParam (Rp β)) (xs : outParam (List (List Key × β))) : Prop where
  get : ∀ {K : Fg} {B : Bs} {Γ : Gm} {σ : St} {G H : Hp} {v : V}, Ws K B Γ O σ G H → ra.rep K G v x → ∃ a kvs, v = .ref a ∧ H a = some (.dT kvs) ∧ DicR (r.rep K G) kvs xs
section
variable {α β γ δ : Type}
instance dkP {O : List Own} {r : Rp β} {xs : List (Key × β)} : DkR O (rDk r) xs r xs := ⟨fun W ⟨a, kvs, h1, h2, h3⟩ => ⟨a, kvs, h1, W.sub _ _ h2, h3⟩⟩
instance dkO {O : List Own} {q : Addr} {r : Rp β} {xs : List (Key × β)} {f : Own → List Own} [h : OwnAt O q (oDk r) xs f] : DkR O rAdr q r xs := ⟨fun W e => by
  obtain ⟨o, h1, kvs, h2, h3⟩ := W.ownO h
  subst h2
  exact ⟨q, kvs, e, h1, h3⟩⟩
instance dtP {O : List Own} {r : Rp β} {xs : List (List Key × β)} : DtR O (rDt r) xs r xs := ⟨fun W ⟨a, kvs, h1, h2, h3⟩ => ⟨a, kvs, h1, W.sub _ _ h2, h3⟩⟩
instance dtO {O : List Own} {q : Addr} {r : Rp β} {xs : List (List Key × β)} {f : Own → List Own} [h : OwnAt O q (oDt r) xs f] : DtR O rAdr q r xs := ⟨fun W e => by
  obtain ⟨o, h1, kvs, h2, h3⟩ := W.ownO h
  subst h2
  exact ⟨q, kvs, e, h1, h3⟩⟩
variable {ι : Type} {F : ι → Cx} {K : Fg} {B : Bs} {Γ : Gm} {O : List Own} {ra : Rp α} {rb : Rp β} {rc : Rp γ} {e a b o i : Expr} {es : List Expr} {pos p apos pos2 : Pos} {n : Str}
variable {P : Program} {w : World} {mg : Str → Option Value} {base : Heap} {k : Nat}
theorem d_keyS {Φ : Key → List Own → Prop} (h : DW F K B Γ O e rStr fun x O1 => Φ (Sum.inr x) O1) : DW F K B Γ O e rKey Φ := fun σ G H W Q q => h σ G H W Q fun x O' v G' H' kk W' e' hv => q (Sum.inr x) O' v G' H' kk W' e' hv
theorem d_keyI {Φ : Key → List Own → Prop} (h : DW F K B Γ O e rInt fun x O1 => Φ (Sum.inl x) O1) : DW F K B Γ O e rKey Φ := fun σ G H W Q q => h σ G H W Q fun x O' v G' H' kk W' e' hv => q (Sum.inl x) O' v G' H' kk W' e' hv
theorem all2_key {K : Fg} {G : Hp} : ∀ {vs : List V} {ks : List Key}, All2 (rKey.rep K G) vs ks → vs = ks.map kV
  | [], [], _ => rfl
  | _ :: _, _ :: _, ⟨a, b⟩ => by rw [show _ = kV _ from a, all2_key b]; rfl
  | [], _ :: _, z => z.elim
  | _ :: _, [], z => z.elim
/-- a tuple of keys -/
theorem d_tupK {j : Nat} {Φ : List Key → List Own → Prop} (h : DA F K B Γ O es (fAll rKey) fun x O1 => x.length ≤ sizeLine ∧ Φ x O1) : DW F K B Γ O (.Tuple es j pos) rTk Φ := by
  intro σ G H W Q q
  refine ⟨_, fun i => pe_tup (WA.pa i), ?_⟩
  refine h σ G H W _ fun x O1 vs G1 H1 k W1 e1 r1 => ⟨by rw [All2.length r1]; exact k.1, fun p hp => ?_⟩
  have s : Stp B.T [] G1 H1 (upd G1 p (.tup vs)) (upd H1 p (.tup vs)) := Stp.new W1.sub hp
  exact q x O1 _ _ _ k.2 (W1.step s) (e1.trans s.g) ⟨p, rfl, by rw [upd_same, all2_key r1]⟩
/-- o[i], o a dict -/
theorem d_dk [fam : Fam F P w K mg base k] {Φ : γ → List Own → Prop} (h : DW F K B Γ O o ra fun x O1 => DW F K B Γ O1 i rKey fun y O2 => ∃ xs z, DkR O2 ra x rc xs ∧ valX xs y = some z ∧ Φ z O2) (hs : NoSl i := by intro _ _; rfl) : DW F K B Γ O (.Subscript o i pos) rc Φ := by
  intro σ G H W Q q
  refine ⟨tDGet (WE F o) (WE F i), fun j => pe_dget (by have := (fam.rm j).units; omega) (WE.pe j) (WE.pe j) hs, ?_⟩
  refine h σ G H W _ fun x O1 v G1 H1 h1 W1 e1 r1 => ?_
  refine h1 σ G1 H1 W1 _ fun y O2 u G2 H2 ⟨xs, z, hD, hz, kk⟩ W2 e2 r2 => ?_
  obtain ⟨c, kvs, g1, g2, g3⟩ := hD.get W2 (ra.mono e2 r1)
  obtain ⟨t, g4, g5⟩ := g3.val_some hz
  refine ⟨c, t, g1, ?_, q _ O2 t G2 H2 kk W2 (e1.trans e2) g5⟩
  have e3 := DGet.k (k := y) g2
  rw [g4] at e3
  rw [show u = kV y from r2]
  exact e3
theorem d_dt [fam : Fam F P w K mg base k] {Φ : γ → List Own → Prop} (h : DW F K B Γ O o ra fun x O1 => DW F K B Γ O1 i rTk fun y O2 => ∃ xs z, DtR O2 ra x rc xs ∧ valX xs y = some z ∧ Φ z O2) (hs : NoSl i := by intro _ _; rfl) : DW F K B Γ O (.Subscript o i pos) rc Φ := by
  intro σ G H W Q q
  refine ⟨tDGet (WE F o) (WE F i), fun j => pe_dget (by have := (fam.rm j).units; omega) (WE.pe j) (WE.pe j) hs, ?_⟩
  refine h σ G H W _ fun x O1 v G1 H1 h1 W1 e1 r1 => ?_
  refine h1 σ G1 H1 W1 _ fun y O2 u G2 H2 ⟨xs, z, hD, hz, kk⟩ W2 e2 ⟨d, r2, r3⟩ => ?_
  obtain ⟨c, kvs, g1, g2, g3⟩ := hD.get W2 (ra.mono e2 r1)
  obtain ⟨t, g4, g5⟩ := g3.val_some hz
  refine ⟨c, t, g1, ?_, q _ O2 t G2 H2 kk W2 (e1.trans e2) g5⟩
  have e3 := DGet.t (k := y) g2 (W2.sub _ _ r3)
  rw [g4] at e3
  rw [r2]
  exact e3
/-- {}: a dict of one's own -/
theorem d_dnewK {Φ : Addr → List Own → Prop} (r : Rp β) (kk : ∀ p, p ∉ B.M → Φ p (⟨p, oDk r, []⟩ :: O)) : DW F K B Γ O (.Dict [] [] pos) rAdr Φ := fun σ G H W Q q =>
  ⟨_, fun i => pe_dnewK, fun p hp => q p _ _ G _ (kk p (W.notM hp)) (W.newOwn hp (r := oDk r) (x := []) ⟨[], rfl, trivial⟩) (Ex.refl _) rfl⟩
theorem d_dnewT {Φ : Addr → List Own → Prop} (r : Rp β) (kk : ∀ p, p ∉ B.M → Φ p (⟨p, oDt r, []⟩ :: O)) : DW F K B Γ O (.Dict [] [] pos) rAdr Φ := fun σ G H W Q q =>
  ⟨_, fun i => pe_dnewT, fun p hp => q p _ _ G _ (kk p (W.notM hp)) (W.newOwn hp (r := oDt r) (x := []) ⟨[], rfl, trivial⟩) (Ex.refl _) rfl⟩
/-- y in d, y not in d -/
theorem d_inK [fam : Fam F P w K mg base k] {Φ : Bool → List Own → Prop} (h : DW F K B Γ O i rKey fun y O1 => DW F K B Γ O1 o ra fun x O2 => ∃ (β : Type) (r : Rp β) (xs : List (Key × β)), DkR O2 ra x r xs ∧ Φ (valX xs y).isSome O2)
    (hm : behindInMarks .In o = false := by first | exact nomark _ | rfl) : DW F K B Γ O (.Compare i [.In] [o] pos) rBool Φ := by
  intro σ G H W Q q
  refine ⟨tDIn (WE F i) (WE F o), fun j => pe_cmp (pc_din (by have := (fam.rm j).units; omega) (WE.pe j) (WE.pe j)) hm, ?_⟩
  refine h σ G H W _ fun y O1 u G1 H1 h1 W1 e1 r1 => ?_
  refine h1 σ G1 H1 W1 _ fun x O2 v G2 H2 ⟨β, r, xs, hD, kk⟩ W2 e2 r2 => ?_
  obtain ⟨c, kvs, g1, g2, g3⟩ := hD.get W2 r2
  refine ⟨c, _, g1, ?_, q _ O2 _ G2 H2 kk W2 (e1.trans e2) (congrArg V.bl g3.isSome)⟩
  rw [show u = kV y from r1]
  exact DGet.k g2
theorem dt_inK [fam : Fam F P w K mg base k] {Φ : Bool → List Own → Prop} (h : DW F K B Γ O i rKey fun y O1 => DW F K B Γ O1 o ra fun x O2 => ∃ (β : Type) (r : Rp β) (xs : List (Key × β)), DkR O2 ra x r xs ∧ Φ (valX xs y).isSome O2)
    (hm : behindInMarks .In o = false := by first | exact nomark _ | rfl) : DT F K B Γ O (.Compare i [.In] [o] pos) Φ := by
  intro σ G H W Q q
  refine ⟨tTest (tDIn (WE F i) (WE F o)), fun j => pt_cmp (pc_din (by have := (fam.rm j).units; omega) (WE.pe j) (WE.pe j)) hm, ?_⟩
  refine h σ G H W _ fun y O1 u G1 H1 h1 W1 e1 r1 => ?_
  refine h1 σ G1 H1 W1 _ fun x O2 v G2 H2 ⟨β, r, xs, hD, kk⟩ W2 e2 r2 => ?_
  obtain ⟨c, kvs, g1, g2, g3⟩ := hD.get W2 r2
  refine ⟨c, _, g1, ?_, _, congrArg V.bl g3.isSome, q _ O2 G2 H2 kk W2 (e1.trans e2)⟩
  rw [show u = kV y from r1]
  exact DGet.k g2
/-! ### texts -/
theorem i_str {x : Str} {j : Int} {c : Nat} {Φ : Str → List Own → Prop} (hz : x.length ≤ sizeLine) (h : atI x.cps.toList j = some c) (kk : Φ ⟨#[c]⟩ O) : IW F K B Γ O rStr rInt x j rStr Φ := fun σ G H v w W rv rw Q q =>
  ⟨rIxS, fun _ => ix_str, x, j, c, rv, rw, hz, h, q _ O _ G H kk W (Ex.refl _) rfl⟩
theorem o_addS {x y : Str} {Φ : Str → List Own → Prop} (hz : x.length + y.length ≤ sizeLine) (kk : Φ (x ++ y) O) : OW F K B Γ O (binaryOp .Add) rStr rStr x y rStr Φ := fun σ G H v w W rv rw Q q => ⟨_, fun _ => op_add_str, x, y, rv, rw, hz, q _ O _ G H kk W (Ex.refl _) rfl⟩
/-! ### zip, enumerate -/
theorem zip_get {xs : List α} {ys : List β} {j : Nat} {x : α} {y : β} (h1 : xs[j]? = some x) (h2 : ys[j]? = some y) : (xs.zip ys)[j]? = some (x, y) := List.getElem?_zip_eq_some.mpr ⟨h1, h2⟩
theorem Gives.zipL {T : List Addr} {Gb : Hp} {c d : Addr} {vs ws : List V} {xs : List α} {ys : List β} (h : SqL K Gb c vs) (r : All2 (ra.rep K Gb) vs xs) (h' : SqL K Gb d ws) (r' : All2 (rb.rep K Gb) ws ys) : Gives K T Gb (Itz K c d) (rTup (fCons ra (fOne rb))) (xs.zip ys) where
  go := fun j G H hj e1 e2 => by
    rw [List.length_zip] at hj
    have h1 : j < vs.length := by rw [r.length]; omega
    have h2 : j < ws.length := by rw [r'.length]; omega
    exact ⟨vs, ws, vs[j], ws[j], ex_l (e1.trans e2) h, ex_l (e1.trans e2) h', List.getElem?_eq_getElem h1, List.getElem?_eq_getElem h2⟩
  stop := fun G H e1 e2 => by
    refine ⟨vs, ws, ex_l (e1.trans e2) h, ex_l (e1.trans e2) h', ?_⟩
    rw [List.length_zip, r.length, r'.length]
    omega
  yld := fun j G H v H' hj e1 e2 ⟨t, x, y, h1, h2, h3, h4, h5⟩ => by
    obtain ⟨x', hx, hr⟩ := r.get (h4 vs (ex_l (e1.trans e2) h))
    obtain ⟨y', hy, hr'⟩ := r'.get (h5 ws (ex_l (e1.trans e2) h'))
    subst h3
    have s : Stp T [] G H (upd G t (.tup [x, y])) (upd H t (.tup [x, y])) := Stp.new e2 h2
    exact ⟨(x', y'), _, zip_get hx hy, s, t, [x, y], h1, SqT.of upd_same, x, [y], rfl, ra.mono (e1.trans s.g) hr, y, rfl, rb.mono (e1.trans s.g) hr'⟩
theorem Gives.zipT {T : List Addr} {Gb : Hp} {c d : Addr} {vs ws : List V} {xs : List α} {ys : List β} (h : SqT K Gb c vs) (r : All2 (ra.rep K Gb) vs xs) (h' : SqT K Gb d ws) (r' : All2 (rb.rep K Gb) ws ys) : Gives K T Gb (RZ.ItzT K c d) (rTup (fCons ra (fOne rb))) (xs.zip ys) where
  go := fun j G H hj e1 e2 => by
    rw [List.length_zip] at hj
    have h1 : j < vs.length := by rw [r.length]; omega
    have h2 : j < ws.length := by rw [r'.length]; omega
    exact ⟨vs, ws, vs[j], ws[j], ex_t (e1.trans e2) h, ex_t (e1.trans e2) h', List.getElem?_eq_getElem h1, List.getElem?_eq_getElem h2⟩
  stop := fun G H e1 e2 => by
    refine ⟨vs, ws, ex_t (e1.trans e2) h, ex_t (e1.trans e2) h', ?_⟩
    rw [List.length_zip, r.length, r'.length]
    omega
  yld := fun j G H v H' hj e1 e2 ⟨t, x, y, h1, h2, h3, h4, h5⟩ => by
    obtain ⟨x', hx, hr⟩ := r.get (h4 vs (ex_t (e1.trans e2) h))
    obtain ⟨y', hy, hr'⟩ := r'.get (h5 ws (ex_t (e1.trans e2) h'))
    subst h3
    have s : Stp T [] G H (upd G t (.tup [x, y])) (upd H t (.tup [x, y])) := Stp.new e2 h2
    exact ⟨(x', y'), _, zip_get hx hy, s, t, [x, y], h1, SqT.of upd_same, x, [y], rfl, ra.mono (e1.trans s.g) hr, y, rfl, rb.mono (e1.trans s.g) hr'⟩
/-- zip of two tuples -/
theorem w_zipT [fam : Fam F P w K mg base k] {elts : List Expr} {kk : Nat} {tpos : Pos} {Φ : List (α × β) → List Own → Prop} (hm : mg "zip" = none) (h : DW F K B Γ O a (rTpv ra) fun xs O1 => DW F K B Γ O1 b (rTpv rb) fun ys O2 => Φ (xs.zip ys) O2) (hg : ∀ i, Gl (F i) "zip" := by intro _; rfl)
    (hs : ∀ i, starEach [a, b] (F i).env = (false, eval a (F i).env) :: starEach [b] (F i).env := by intro _; rfl) (hs2 : ∀ i, starEach [b] (F i).env = (false, eval b (F i).env) :: starEach [] (F i).env := by intro _; rfl) (hpl : ∀ i, (backTo pos (starEach [b] (F i).env)).any (·.1) = false := by intro _; rfl) :
    DI F K B Γ O (.Tuple elts kk tpos) (.Call (.Name "zip" p) [a, b] [] pos) (rTup (fCons ra (fOne rb))) Φ := by
  intro σ G H W R q
  refine ⟨RZ.iZipA K (tCons (WE F a) (tCons (WE F b) tNil)), fun i => by rw [← fam.ka i]; exact RZ.pi_zipA (hg i) (by rw [fam.mg i]; exact hm) (pa_cons (WE.pe i) (pa_cons (WE.pe i) pa_nil (hs2 i)) (hs i)) (hs i) (hpl i), ?_⟩
  refine h σ G H W _ fun xs O1 v G1 H1 h1 W1 e1 ⟨c, vs, r1, r2, r3⟩ => ?_
  refine h1 σ G1 H1 W1 _ fun ys O2 u G2 H2 k2 W2 e2 ⟨d, ws, s1, s2, s3⟩ => ?_
  exact ⟨c, d, vs, ws, by rw [r1, s1], .inr ⟨ex_t (e2.trans W2.sub) r2, ex_t W2.sub s2, q _ _ O2 G2 H2 k2 (Gives.zipT (ex_t e2 r2) (r3.mono fun _ _ z => ra.mono e2 z) s2 s3) W2 (e1.trans e2)⟩⟩
theorem w_zipL [fam : Fam F P w K mg base k] {elts : List Expr} {kk : Nat} {tpos : Pos} {Φ : List (α × β) → List Own → Prop} (hm : mg "zip" = none) (h : DW F K B Γ O a (rLst ra) fun xs O1 => DW F K B Γ O1 b (rLst rb) fun ys O2 => Φ (xs.zip ys) O2) (hg : ∀ i, Gl (F i) "zip" := by intro _; rfl)
    (hs : ∀ i, starEach [a, b] (F i).env = (false, eval a (F i).env) :: starEach [b] (F i).env := by intro _; rfl) (hs2 : ∀ i, starEach [b] (F i).env = (false, eval b (F i).env) :: starEach [] (F i).env := by intro _; rfl) (hpl : ∀ i, (backTo pos (starEach [b] (F i).env)).any (·.1) = false := by intro _; rfl) :
    DI F K B Γ O (.Tuple elts kk tpos) (.Call (.Name "zip" p) [a, b] [] pos) (rTup (fCons ra (fOne rb))) Φ := by
  intro σ G H W R q
  refine ⟨RZ.iZipA K (tCons (WE F a) (tCons (WE F b) tNil)), fun i => by rw [← fam.ka i]; exact RZ.pi_zipA (hg i) (by rw [fam.mg i]; exact hm) (pa_cons (WE.pe i) (pa_cons (WE.pe i) pa_nil (hs2 i)) (hs i)) (hs i) (hpl i), ?_⟩
  refine h σ G H W _ fun xs O1 v G1 H1 h1 W1 e1 ⟨c, vs, r1, r2, r3⟩ => ?_
  refine h1 σ G1 H1 W1 _ fun ys O2 u G2 H2 k2 W2 e2 ⟨d, ws, s1, s2, s3⟩ => ?_
  exact ⟨c, d, vs, ws, by rw [r1, s1], .inl ⟨SqL.of (e2.trans W2.sub _ _ r2), SqL.of (W2.sub _ _ s2), q _ _ O2 G2 H2 k2 (Gives.zipL (SqL.of (e2 _ _ r2)) (r3.mono fun _ _ z => ra.mono e2 z) (SqL.of s2) s3) W2 (e1.trans e2)⟩⟩
end
/-! ### own things that are done -/
class Frz {α : Type} (r : Ow α) (r' : outParam (Rp α)) : Prop where
  frz : ∀ {K : Fg} {G : Hp} {a : Addr} {o : HO} {x : α}, G a = some o → r.rep K G o x → r'.rep K G (.ref a) x
section
variable {α β γ δ : Type}
instance {r : Rp β} : Frz (oLst r) (rLst r) := ⟨fun h ⟨vs, h1, h2⟩ => ⟨_, vs, rfl, by rw [h, h1], h2⟩⟩
instance {r : Rp β} : Frz (oDk r) (rDk r) := ⟨fun h ⟨vs, h1, h2⟩ => ⟨_, vs, rfl, by rw [h, h1], h2⟩⟩
instance {r : Rp β} : Frz (oDt r) (rDt r) := ⟨fun h ⟨vs, h1, h2⟩ => ⟨_, vs, rfl, by rw [h, h1], h2⟩⟩
instance {ns : List Str} {f : RpF β} : Frz (oRec ns f) (rRec ns f) := ⟨fun h ⟨vs, h1, h2⟩ => ⟨_, vs, rfl, by rw [h, h1], h2⟩⟩
instance {C : Addr} {ns : List Str} {f : RpF β} : Frz (oIns C ns f) (rIns C ns f) := ⟨fun h ⟨dx, vs, h1, h2, h3⟩ => ⟨_, dx, vs, rfl, by rw [h, h1], h2, h3⟩⟩
variable {X : Cx} {K : Fg} {B : Bs} {Γ : Gm} {O : List Own} {r : Ow α} {r' : Rp α} {D : Ends} {rest : List Stmt} {e o i : Expr} {pos tpos : Pos}
variable {P : Program} {w : World} {mg : Str → Option Value} {base : Heap} {k : Nat} {rc : Rp γ}
theorem s_done (j : Nat) {q : Addr} {x : α} {f : Option Slot → Gm} [hz : Frz r r'] [hA : At Γ j rAdr q] [hg : SetG Γ j f] (hM : q ∉ B.M) (h : DS X K B (f (some ⟨r', x⟩)) O rest D) : DS X K B Γ (⟨q, r, x⟩ :: O) rest D := fun σ G H W => by
  obtain ⟨o, h1, W2, e⟩ := W.frz hM
  obtain ⟨u, h3, h4⟩ := W2.env.get hA.get
  have hu : u = .ref q := h4
  have W3 := W2.set (s := ⟨r', x⟩) j (u := u) (by rw [hu]; exact hz.frz upd_same (r.mono e h1))
  have e2 : σ.set j (some u) = σ := by
    refine List.ext_getElem? fun l => ?_
    by_cases hj : j = l
    · subst hj
      rw [List.getElem?_set_self (List.getElem?_eq_some_iff.mp h3).1, h3]
    · rw [List.getElem?_set_ne hj]
  rw [e2, ← hg.eq] at W3
  exact h σ _ H W3
theorem rt_done {q : Addr} {x : α} [hz : Frz r r'] (hM : q ∉ B.M) (h : RT K B Γ O r' x D) : RT K B Γ (⟨q, r, x⟩ :: O) rAdr q D := fun v σ G H W rv => by
  obtain ⟨o, h1, W2, e⟩ := W.frz hM
  exact h v σ _ H W2 (by rw [show v = V.ref q from rv]; exact hz.frz upd_same (r.mono e h1))
theorem d_done {ι : Type} {F : ι → Cx} [hz : Frz r r'] {Φ : α → List Own → Prop} (h : DW F K B Γ O e rAdr fun q O1 => ∃ x O2, O1 = ⟨q, r, x⟩ :: O2 ∧ q ∉ B.M ∧ Φ x O2) : DW F K B Γ O e r' Φ := fun σ G H W Q q =>
  h σ G H W Q fun c O1 v G1 H1 ⟨x, O2, e1, hM, kk⟩ W1 e2 r1 => by
    subst e1
    obtain ⟨o, h1, W2, e⟩ := W1.frz hM
    exact q x O2 v _ H1 kk W2 (e2.trans e) (by rw [show v = V.ref c from r1]; exact hz.frz upd_same (r.mono e h1))
/-- d[i] = e, an own dict -/
theorem s_dput [fam : Fam (Us X) P w K mg base k]
    (h : DW (Us X) K B Γ O e rc fun y O1 => DW (Us X) K B Γ O1 o rAdr fun q O2 => DW (Us X) K B Γ O2 i rKey fun n O3 => ∃ xs f, OwnAt O3 q (oDk rc) xs f ∧ xs.length < sizeLine ∧ DS X K B Γ (f ⟨q, oDk rc, putX xs n y⟩) rest D)
    (hs : swapsWith e (some (.Subscript o i tpos)) pos.line X.env = pure false := by rfl) : DS X K B Γ O (.Assign [.Subscript o i tpos] e pos :: rest) D := by
  intro σ G H W
  refine WSs.cons (ps_dput (td := WE (Us X) o) (ty := WE (Us X) i) (tv := WE (Us X) e) (hu_of (fam.rm ())) (WE.pe (F := Us X) ()) (WE.pe (F := Us X) ()) (WE.pe (F := Us X) ()) hs) ?_
  refine h σ G H W _ fun y O1 v G1 H1 k1 W1 e1 r1 => ?_
  refine k1 σ G1 H1 W1 _ fun q O2 u G2 H2 k2 W2 e2 r2 => ?_
  refine k2 σ G2 H2 W2 _ fun n O3 z G3 H3 ⟨xs, f, hO, hl, kk⟩ W3 e3 r3 => ?_
  obtain ⟨ob, h1, kvs, h2, h3⟩ := W3.ownO hO
  subst h2
  refine ⟨q, _, r2, by rw [show z = kV n from r3]; exact DPut.k h1 (by rw [h3.length]; exact hl), ?_⟩
  exact kk σ G3 _ (W3.mutO (h := hO) (r' := oDk rc) (x' := putX xs n y) ⟨_, rfl, h3.put (rc.mono (e2.trans e3) r1)⟩)
theorem s_dputT [fam : Fam (Us X) P w K mg base k]
    (h : DW (Us X) K B Γ O e rc fun y O1 => DW (Us X) K B Γ O1 o rAdr fun q O2 => DW (Us X) K B Γ O2 i rTk fun n O3 => ∃ xs f, OwnAt O3 q (oDt rc) xs f ∧ xs.length < sizeLine ∧ DS X K B Γ (f ⟨q, oDt rc, putX xs n y⟩) rest D)
    (hs : swapsWith e (some (.Subscript o i tpos)) pos.line X.env = pure false := by rfl) : DS X K B Γ O (.Assign [.Subscript o i tpos] e pos :: rest) D := by
  intro σ G H W
  refine WSs.cons (ps_dput (td := WE (Us X) o) (ty := WE (Us X) i) (tv := WE (Us X) e) (hu_of (fam.rm ())) (WE.pe (F := Us X) ()) (WE.pe (F := Us X) ()) (WE.pe (F := Us X) ()) hs) ?_
  refine h σ G H W _ fun y O1 v G1 H1 k1 W1 e1 r1 => ?_
  refine k1 σ G1 H1 W1 _ fun q O2 u G2 H2 k2 W2 e2 r2 => ?_
  refine k2 σ G2 H2 W2 _ fun n O3 z G3 H3 ⟨xs, f, hO, hl, kk⟩ W3 e3 ⟨c, r3, r4⟩ => ?_
  obtain ⟨ob, h1, kvs, h2, h3⟩ := W3.ownO hO
  subst h2
  refine ⟨q, _, r2, by rw [r3]; exact DPut.t h1 (W3.sub _ _ r4) (by rw [h3.length]; exact hl), ?_⟩
  exact kk σ G3 _ (W3.mutO (h := hO) (r' := oDt rc) (x' := putX xs n y) ⟨_, rfl, h3.put (rc.mono (e2.trans e3) r1)⟩)
/-- a new key of an own dict by written keys -/
theorem s_recNew [fam : Fam (Us X) P w K mg base k] {key : Str} {ns : List Str} {fr : RpF δ} {j : Nat} {pos' : Pos} {m : Nat} [hl : Len fr m]
    (h : DW (Us X) K B Γ O e rc fun y O1 => DW (Us X) K B Γ O1 o rAdr fun q O2 => ∃ x f, OwnAt O2 q (oRec ns fr) x f ∧ DS X K B Γ (f ⟨q, oRec (ns ++ [key]) (fApp fr rc), (x, y)⟩) rest D) (hn : key ∉ ns := by decide +kernel) (hm : m = ns.length := by decide) (hz : m < 1000 := by decide)
    (hs : swapsWith e (some (.Subscript o (.Constant (.str key) j pos') tpos)) pos.line X.env = pure false := by rfl) : DS X K B Γ O (.Assign [.Subscript o (.Constant (.str key) j pos') tpos] e pos :: rest) D := by
  intro σ G H W
  refine WSs.cons (ps_dput (td := WE (Us X) o) (ty := tC (.str key)) (tv := WE (Us X) e) (hu_of (fam.rm ())) (WE.pe (F := Us X) ()) pe_str (WE.pe (F := Us X) ()) hs) ?_
  refine h σ G H W _ fun y O1 u G1 H1 k1 W1 e1 r1 => ?_
  refine k1 σ G1 H1 W1 _ fun c O2 v G2 H2 ⟨x, f, hO, kk⟩ W2 e2 r2 => ?_
  obtain ⟨ob, h1, vs, h2, h3⟩ := W2.ownO hO
  subst h2
  have hlen := hl.len h3
  have hnone : valV (zipK ns vs) (Sum.inr key) = none := valV_none (by
    rw [zipK_keys (by rw [hlen, hm])]
    intro z
    obtain ⟨b, hb, eb⟩ := List.mem_map.mp z
    exact hn (Sum.inr.inj eb ▸ hb))
  have hput : putK (zipK ns vs) (Sum.inr key) u = zipK (ns ++ [key]) (vs ++ [u]) := by
    rw [putK_new u hnone]
    unfold zipK
    rw [List.map_append, List.zip_append (by rw [List.length_map, hlen, hm])]
    rfl
  have hzz : (zipK ns vs).length < sizeLine := by
    have e3 : (zipK ns vs).length ≤ vs.length := by
      unfold zipK
      rw [List.length_zip]
      exact Nat.min_le_right _ _
    exact Nat.lt_of_le_of_lt e3 (by rw [hlen]; exact small1000 (by omega))
  refine ⟨c, _, r2, DPut.k (k := Sum.inr key) h1 hzz, ?_⟩
  refine kk _ _ _ (W2.mutO (h := hO) (r' := oRec (ns ++ [key]) (fApp fr rc)) (x' := (x, y)) ⟨vs ++ [u], by rw [hput], vs, u, rfl, h3, rc.mono e2 r1⟩)
end
end Sk


set_option Elab.async false
set_option linter.all false
set_option maxRecDepth 100000
set_option maxHeartbeats 4100000
/-! Sk13: more of objects; ends of bodies; what is found. -/
namespace Sk
open PySem L2 Evl
theorem Kl.sub {K : Fg} {C : Addr} {ns ns' : List Str} (h : Kl K C ns) (hs : ∀ x ∈ ns', x ∈ ns) : Kl K C ns' := ⟨h.c, fun f hf => h.na f (hs f hf)⟩
/-- a body that falls off its end -/
theorem s_fall {X : Cx} {K : Fg} {B : Bs} {Γ : Gm} {O : List Own} {Q : VK} (h : RT K B Γ O rNon () { nx := fun _ H' => Q .non H', rt := Q }) : DS X K B Γ O [] { nx := fun _ H' => Q .non H', rt := Q } := s_nil fun σ G H W => h .non σ G H W rfl
/-- a return in a loop -/
theorem rt_in {K : Fg} {B : Bs} {Γ : Gm} {O : List Own} {α : Type} {ra : Rp α} {x : α} {D D' : Ends} {g : Hp} (h : RT K B Γ O ra x D) (hr : D'.rt = D.rt := by rfl) : RT K (B.push g) Γ O ra x D' := fun v σ G H W r => by
  rw [hr]
  exact h v σ G H W.unbase r
section
variable {ι : Type} {F : ι → Cx} {K : Fg} {B : Bs} {Γ : Gm} {O : List Own} {α β γ : Type} {ra : Rp α} {rb : Rp β} {rc : Rp γ} {e : Expr}
/-- tuple(t) of a tuple is the same -/
theorem c_tupleT {xs : List α} {Φ : List α → List Own → Prop} (kk : Φ xs O) (hK : ∀ j, (F j).K = K := by intro _; rfl) : CW F K B Γ O (.type "tuple") (fOne (rTpv ra)) xs (rTpv ra) Φ :=
  fun σ G H vs W ⟨v, e, a, ws, h1, h2, h3⟩ Q q =>
    ⟨fun xs H Q => ∃ p ys, xs = [.ref p] ∧ ((SqL K H p ys ∧ ∀ l, H l = none → Q (.ref l) (upd H l (.tup ys))) ∨ (SqT K H p ys ∧ Q (.ref p) H)), fun j => by rw [← hK j]; exact call_tuple_of, a, ws, by rw [e, h1], .inr ⟨ex_t W.sub h2, q xs O _ G H kk W (Ex.refl _) ⟨a, ws, rfl, h2, h3⟩⟩⟩
/-- a value seen as another kind -/
theorem d_re {x : α → γ → Prop} {Φ : γ → List Own → Prop} (h : DW F K B Γ O e ra fun x O1 => ∃ y, (∀ {K : Fg} {G : Hp} {v : V}, ra.rep K G v x → rc.rep K G v y) ∧ Φ y O1) : DW F K B Γ O e rc Φ := fun σ G H W Q q =>
  h σ G H W Q fun x O' v G' H' ⟨y, c, kk⟩ W' e' hv => q y O' v G' H' kk W' e' (c hv)
end
theorem find_at {α : Type} {l : List α} {p : α → Bool} {i : Nat} {x : α} (h : (l.take i).find? p = none) (hx : l[i]? = some x) (hp : p x = true) : l.find? p = some x := by
  have hi := (List.getElem?_eq_some_iff.mp hx)
  obtain ⟨hl, e⟩ := hi
  have es : l = l.take i ++ x :: l.drop (i + 1) := by
    rw [← e]
    exact (List.take_append_drop i l).symm.trans (by rw [List.drop_eq_getElem_cons hl])
  rw [es, List.find?_append, h]
  simp [hp]
theorem find_no {α : Type} {l : List α} {p : α → Bool} {i : Nat} {x : α} (h : (l.take i).find? p = none) (hx : l[i]? = some x) (hp : p x = false) : (l.take (i + 1)).find? p = none := by
  rw [List.take_add_one, hx, List.find?_append, h]
  simp [hp]
end Sk


set_option Elab.async false
set_option linter.all false
set_option maxRecDepth 100000
set_option maxHeartbeats 4100000
/-! Sk14: name = [.. for ..] on one line (the name is set ahead of the block's end). -/
namespace Sk
open PySem L2 Evl
section
variable {ι : Type} {F : ι → Cx} {K : Fg} {B : Bs} {Γ : Gm} {O : List Own} {α β γ : Type} {ra : Rp α} {rb : Rp β} {rc : Rp γ} {a b c e elt tg iter : Expr} {es ifs : List Expr} {pos p : Pos} {n : Str} {scope : Scope}
variable {P : Program} {w : World} {mg : Str → Option Value} {base : Heap} {k : Nat} {own : List (Str × Nat)}
/-- what a comprehension makes, where it stands -/
def DL (F : ι → Cx) (K : Fg) (B : Bs) (Γ : Gm) (O : List Own) (elt tg iter : Expr) (ifs : List Expr) (scope : Scope) (own : List (Str × Nat)) (r : Rp γ) (Φ : γ → List Own → Prop) : Prop :=
  ∀ σ G H, Ws K B Γ O σ G H → ∀ Q : VK, (∀ x O' v G' H', Φ x O' → Ws K B Γ O' σ G' H' → Ex G G' → r.rep K G' v x → Q v H') → tLc (WI F tg iter) (WG (blkF F scope) tg) (WTs (blkF F scope) ifs) (WE (blkF F scope) elt) (own.map (·.2)) σ H Q
theorem l_frz {Φ : List β → List Own → Prop} (h : DL F K B Γ O elt tg iter ifs scope own rAdr fun q O1 => ∃ xs O2, O1 = ⟨q, oLst rb, xs⟩ :: O2 ∧ q ∉ B.M ∧ Φ xs O2) : DL F K B Γ O elt tg iter ifs scope own (rLst rb) Φ := by
  intro σ G H W Q q
  refine h σ G H W Q fun p O1 v G1 H1 ⟨xs, O2, e1, hM, kk⟩ W1 e2 r => ?_
  subst e1
  obtain ⟨o, ⟨ws, h1, h2⟩, W2, e3⟩ := W1.frz hM
  subst h1
  exact q xs O2 v _ H1 kk W2 (e2.trans e3) ⟨p, ws, r, upd_same, h2.mono fun _ _ z => rb.mono e3 z⟩
/-- [elt for tg in iter if ..]: a list of one's own; behind i items ys is made and d holds -/
theorem l_lcO [fam : Fam F P w K mg base k] (own : List (Str × Nat)) (vs : List Nat) {Γ' : Gm} [hw : WipeG Γ vs Γ'] {js : List Nat} {Φ : Addr → List Own → Prop}
    (h : DI F K B Γ O tg iter ra fun xs O1 => ∃ (δ : Type) (Pv : Nat → List β → δ → Prop) (Of : δ → List Own), (∃ d, Pv 0 [] d ∧ O1 = Of d) ∧
      (∀ g D i x ys d, xs[i]? = some x → Pv i ys d → DG (blkF F scope) K (B.push g) Γ' (⟨D, oLst rb, ys⟩ :: Of d) tg ra x js fun Γ2 => DTs (blkF F scope) K (B.push g) Γ2 (⟨D, oLst rb, ys⟩ :: Of d) ifs fun t O2 =>
        (t = true → DW (blkF F scope) K (B.push g) Γ2 O2 elt rb fun y O3 => ∃ d', O3 = ⟨D, oLst rb, ys⟩ :: Of d' ∧ ys.length < sizeLine ∧ Pv (i + 1) (ys ++ [y]) d') ∧ (t = false → ∃ d', O2 = ⟨D, oLst rb, ys⟩ :: Of d' ∧ Pv (i + 1) ys d')) ∧
      (∀ D ys d, D ∉ B.M → Pv xs.length ys d → Φ D (⟨D, oLst rb, ys⟩ :: Of d)))
    (hv : own.map (·.2) = vs) (hjs : ∀ j ∈ js, j ∈ vs) : DL F K B Γ O elt tg iter ifs scope own rAdr Φ := by
  intro σ G H W Q q
  refine h σ G H W _ fun xs J O1 G1 H1 ⟨δ, Pv, Of, ⟨d0, p0, o0⟩, hst, hd⟩ gv W1 e1 D hD => ?_
  rw [hv]
  have hG : ∀ {G' : Hp}, Ex G1 G' → EnvR K G' σ Γ := fun e => W.env.mono (e1.trans e)
  refine ⟨fun i m H => m = xs.length - i ∧ i ≤ xs.length ∧ ∃ ys d G2, Pv i ys d ∧ Ws K (B.push G1) Γ' (⟨D, oLst rb, ys⟩ :: Of d) (wipe σ vs) G2 H, ⟨xs.length, by simp, Nat.zero_le _, [], d0, G1, p0, ?_⟩, ?_⟩
  · have W2 := (W1.newOwn hD (r := oLst rb) (x := []) ⟨[], rfl, trivial⟩).base
    rw [o0] at W2
    exact W2.env' (hw.env (hG (Ex.refl _)))
  rintro i m H2 ⟨rfl, hi, ys, d, G2, pd, W2⟩
  have eb : Ex G1 G2 := W2.bs G1 List.mem_cons_self
  by_cases hlt : i < xs.length
  · refine .inr ⟨gv.go i G2 H2 hlt eb W2.sub, fun H' => i + 1 ≤ xs.length ∧ ∃ ys d G2, Pv (i + 1) ys d ∧ Ws K (B.push G1) Γ' (⟨D, oLst rb, ys⟩ :: Of d) (wipe σ vs) G2 H', fun H' ⟨l, z⟩ => ⟨xs.length - (i + 1), by omega, rfl, l, z⟩, fun v H3 y => ?_⟩
    obtain ⟨x, G3, hx, s3, r3⟩ := gv.yld i G2 H2 v H3 hlt eb W2.sub y
    have W3 := W2.step s3
    refine hst G1 D i x ys d hx pd (wipe σ vs) G3 H3 v W3 r3 _ fun Γ2 σ2 q2 W4 wp => ⟨(wp vs hjs).trans wipe_wipe, ?_⟩
    refine q2 σ2 G3 H3 W4 _ fun t O2 G4 H4 kk W5 e5 => ?_
    have back : ∀ {O' : List Own} {G' H' : Hp}, Ws K (B.push G1) Γ2 O' σ2 G' H' → Ws K (B.push G1) Γ' O' (wipe σ vs) G' H' := fun W' => W'.env' (hw.env (hG (W'.bs G1 List.mem_cons_self)))
    cases t with
    | false =>
      obtain ⟨d', o2, p2⟩ := kk.2 rfl
      subst o2
      exact iteF ⟨hlt, ys, d', G4, p2, back W5⟩
    | true =>
      refine iteT ?_
      refine kk.1 rfl σ2 G4 H4 W5 _ fun y O3 u G5 H5 ⟨d', o3, hl, p3⟩ W6 e6 r6 => ?_
      subst o3
      obtain ⟨⟨ob, h1, ws, h2, h3⟩, _⟩ := W6.own _ List.mem_cons_self
      subst h2
      refine ⟨ws, h1, by rw [h3.length]; exact hl, hlt, ys ++ [y], d', G5, p3, ?_⟩
      exact back (W6.mutHd (r' := oLst rb) (x' := ys ++ [y]) ⟨ws ++ [u], rfl, h3.append ⟨r6, trivial⟩⟩)
  · obtain rfl : i = xs.length := by omega
    refine .inl ⟨gv.stop G2 H2 eb W2.sub, q D _ (.ref D) G2 H2 (hd D ys d (W1.notM hD) pd) (W2.unbase.env' (hG eb)) (e1.trans eb) rfl⟩
theorem l_lcF [fam : Fam F P w K mg base k] (own : List (Str × Nat)) (vs : List Nat) {Γ' : Gm} [hw : WipeG Γ vs Γ'] {js : List Nat} {f : α → β} {g : α → Bool} {Φ : List β → List Own → Prop}
    (h : DI F K B Γ O tg iter ra fun xs O1 => O1 = O ∧ xs.length ≤ sizeLine ∧
      (∀ gg D ys x, x ∈ xs → DG (blkF F scope) K (B.push gg) Γ' (⟨D, oLst rb, ys⟩ :: O) tg ra x js fun Γ2 => DTs (blkF F scope) K (B.push gg) Γ2 (⟨D, oLst rb, ys⟩ :: O) ifs fun t O2 =>
        t = g x ∧ O2 = ⟨D, oLst rb, ys⟩ :: O ∧ (g x = true → DW (blkF F scope) K (B.push gg) Γ2 (⟨D, oLst rb, ys⟩ :: O) elt rb fun y O3 => y = f x ∧ O3 = ⟨D, oLst rb, ys⟩ :: O)) ∧
      Φ ((xs.filter g).map f) O)
    (hv : own.map (·.2) = vs) (hjs : ∀ j ∈ js, j ∈ vs) : DL F K B Γ O elt tg iter ifs scope own (rLst rb) Φ := by
  refine l_frz (l_lcO (ra := ra) (rb := rb) own vs ?_ hv hjs)
  intro σ G H W R q
  refine h σ G H W R fun xs J O1 G1 H1 ⟨e1, hl, ht, hd⟩ gv W1 ee => q xs J O1 G1 H1 ⟨Unit, fun i ys _ => i ≤ xs.length ∧ ys = ((xs.take i).filter g).map f, fun _ => O, ⟨(), ⟨Nat.zero_le _, rfl⟩, e1⟩, fun gg D i x ys d hx ⟨hi, hy⟩ => ?_, fun D ys d hM ⟨_, hy⟩ => ?_⟩ gv W1 ee
  · have hlt : i < xs.length := (List.getElem?_eq_some_iff.mp hx).1
    have hmem := List.mem_of_getElem? hx
    have hlen : ys.length ≤ i := by
      rw [hy, List.length_map]
      refine Nat.le_trans (List.length_filter_le _ _) ?_
      rw [List.length_take]
      exact Nat.min_le_left _ _
    intro σ2 G2 H2 v W2 r2 Q2 q2
    refine ht gg D ys x hmem σ2 G2 H2 v W2 r2 Q2 fun Γ2 σ' p W' wp => q2 Γ2 σ' (fun σ3 G3 H3 W3 Q3 q3 => p σ3 G3 H3 W3 Q3 fun t O2 G4 H4 ⟨p1, p2, p3⟩ W4 e4 => q3 t O2 G4 H4 ?_ W4 e4) W' wp
    subst p1 p2
    refine ⟨fun ht => d_mono (p3 ht) fun y O3 ⟨z1, z2⟩ => ⟨(), z2, by omega, hlt, ?_⟩, fun ht => ⟨(), rfl, hlt, ?_⟩⟩
    · rw [take_snoc hx, List.filter_append, List.map_append, ← hy, z1]
      congr 1
      simp [ht]
    · rw [take_snoc hx, List.filter_append, List.map_append, ← hy]
      simp [ht]
  · rw [List.take_length] at hy
    subst hy
    exact ⟨_, _, rfl, hM, hd⟩
/-- without a test -/
theorem l_lcP [fam : Fam F P w K mg base k] (own : List (Str × Nat)) (vs : List Nat) {Γ' : Gm} [hw : WipeG Γ vs Γ'] {js : List Nat} {f : α → β} {Φ : List β → List Own → Prop}
    (h : DI F K B Γ O tg iter ra fun xs O1 => O1 = O ∧ xs.length ≤ sizeLine ∧
      (∀ gg D ys x, x ∈ xs → DG (blkF F scope) K (B.push gg) Γ' (⟨D, oLst rb, ys⟩ :: O) tg ra x js fun Γ2 =>
        DW (blkF F scope) K (B.push gg) Γ2 (⟨D, oLst rb, ys⟩ :: O) elt rb fun y O3 => y = f x ∧ O3 = ⟨D, oLst rb, ys⟩ :: O) ∧ Φ (xs.map f) O)
    (hv : own.map (·.2) = vs) (hjs : ∀ j ∈ js, j ∈ vs) : DL F K B Γ O elt tg iter [] scope own (rLst rb) Φ := by
  refine l_lcF (ra := ra) (f := f) (g := fun _ => true) own vs ?_ hv hjs
  intro σ G H W R q
  refine h σ G H W R fun xs J O1 G1 H1 ⟨e1, hl, ht, hd⟩ gv W1 ee => q xs J O1 G1 H1 ⟨e1, hl, fun gg D ys x hx σ2 G2 H2 v W2 r2 Q2 q2 => ht gg D ys x hx σ2 G2 H2 v W2 r2 Q2 fun Γ2 σ' p W' wp => q2 Γ2 σ' (dts_nil ⟨rfl, rfl, fun _ => p⟩) W' wp, ?_⟩ gv W1 ee
  have e : xs.filter (fun _ => true) = xs := List.filter_eq_self.mpr fun _ _ => rfl
  rw [e]
  exact hd
/-- name = [..] -/
theorem s_lc {X : Cx} [fam : Fam (Us X) P w K mg base k] (i : Nat) {f : Option Slot → Gm} [hg : SetG Γ i f] {rest : List Stmt} {D : Ends} {spos : Pos} {r : Rp γ} (own : List (Str × Nat)) (ok : BlkOk X.N X.env.scope scope own)
    (h : DL (Us X) K B Γ O elt tg iter ifs scope own r fun x O' => DS X K B (f (some ⟨r, x⟩)) O' rest D) (hi : X.N[i]? = some n := by rfl) (hx : X.env.scope.names.lookup n = some .local := by rfl)
    (hs : ∀ x, foldedSetIterable iter X.env x = pure x := by intro _; rfl) (hsw : swapsWith (.ListComp elt [⟨tg, iter, ifs, 0⟩] scope pos) (some (.Name n p)) spos.line X.env = pure true := by exact sw_true (by rfl) (by rfl) (by rfl) (by rfl)) :
    DS X K B Γ O (.Assign [.Name n p] (.ListComp elt [⟨tg, iter, ifs, 0⟩] scope pos) spos :: rest) D := by
  intro σ G H W
  refine WSs.cons (ps_setLc (wi := WI (Us X) tg iter) (g := WG (blkF (Us X) scope) tg) (tt := WTs (blkF (Us X) scope) ifs) (te := WE (blkF (Us X) scope) elt) (fam.cm ()) (fam.nd ()) hi hx hsw (WI.pi (F := Us X) ()) ok (fun s H C cl fp => WG.pg (F := blkF (Us X) scope) ((), s, H, C, cl, fp))
    (fun s H C cl fp => WTs.pts (F := blkF (Us X) scope) ((), s, H, C, cl, fp)) (fun s H C cl fp => WE.pe (F := blkF (Us X) scope) ((), s, H, C, cl, fp)) hs) ?_
  exact h σ G H W _ fun x O' v G' H' k W' _ r' => k _ G' H' (by rw [hg.eq]; exact W'.set i r')
theorem s_lcO {X : Cx} [fam : Fam (Us X) P w K mg base k] (i0 : Nat) {f0 : Option Slot → Gm} [hg : SetG Γ i0 f0] {rest : List Stmt} {D0 : Ends} {spos : Pos} (own : List (Str × Nat)) (vs : List Nat) (ok : Unit → BlkOk X.N X.env.scope scope own) {Γ' : Gm} [hw : WipeG Γ vs Γ'] {js : List Nat}
    (h : DI (Us X) K B Γ O tg iter ra fun xs O1 => ∃ (δ : Type) (Pv : Nat → List β → δ → Prop) (Of : δ → List Own), (∃ d, Pv 0 [] d ∧ O1 = Of d) ∧
      (∀ g D i x ys d, xs[i]? = some x → Pv i ys d → DG (blkF (Us X) scope) K (B.push g) Γ' (⟨D, oLst rb, ys⟩ :: Of d) tg ra x js fun Γ2 => DTs (blkF (Us X) scope) K (B.push g) Γ2 (⟨D, oLst rb, ys⟩ :: Of d) ifs fun t O2 =>
        (t = true → DW (blkF (Us X) scope) K (B.push g) Γ2 O2 elt rb fun y O3 => ∃ d', O3 = ⟨D, oLst rb, ys⟩ :: Of d' ∧ ys.length < sizeLine ∧ Pv (i + 1) (ys ++ [y]) d') ∧ (t = false → ∃ d', O2 = ⟨D, oLst rb, ys⟩ :: Of d' ∧ Pv (i + 1) ys d')) ∧
      (∀ D ys d, D ∉ B.M → Pv xs.length ys d → DS X K B (f0 (some ⟨rAdr, D⟩)) (⟨D, oLst rb, ys⟩ :: Of d) rest D0))
    (hi : X.N[i0]? = some n := by rfl) (hx : X.env.scope.names.lookup n = some .local := by rfl) (hv : own.map (·.2) = vs := by rfl) (hjs : ∀ j ∈ js, j ∈ vs := by decide)
    (hs : ∀ x, foldedSetIterable iter X.env x = pure x := by intro _; rfl) (hsw : swapsWith (.ListComp elt [⟨tg, iter, ifs, 0⟩] scope pos) (some (.Name n p)) spos.line X.env = pure true := by exact sw_true (by rfl) (by rfl) (by rfl) (by rfl)) :
    DS X K B Γ O (.Assign [.Name n p] (.ListComp elt [⟨tg, iter, ifs, 0⟩] scope pos) spos :: rest) D0 :=
  s_lc i0 own (ok ()) (l_lcO (ra := ra) (rb := rb) own vs h hv hjs) hi hx hs hsw
theorem s_lcF {X : Cx} [fam : Fam (Us X) P w K mg base k] (i0 : Nat) {f0 : Option Slot → Gm} [hg : SetG Γ i0 f0] {rest : List Stmt} {D0 : Ends} {spos : Pos} (own : List (Str × Nat)) (vs : List Nat) (ok : Unit → BlkOk X.N X.env.scope scope own) {Γ' : Gm} [hw : WipeG Γ vs Γ'] {js : List Nat} {f : α → β} {g : α → Bool}
    (h : DI (Us X) K B Γ O tg iter ra fun xs O1 => O1 = O ∧ xs.length ≤ sizeLine ∧
      (∀ gg D ys x, x ∈ xs → DG (blkF (Us X) scope) K (B.push gg) Γ' (⟨D, oLst rb, ys⟩ :: O) tg ra x js fun Γ2 => DTs (blkF (Us X) scope) K (B.push gg) Γ2 (⟨D, oLst rb, ys⟩ :: O) ifs fun t O2 =>
        t = g x ∧ O2 = ⟨D, oLst rb, ys⟩ :: O ∧ (g x = true → DW (blkF (Us X) scope) K (B.push gg) Γ2 (⟨D, oLst rb, ys⟩ :: O) elt rb fun y O3 => y = f x ∧ O3 = ⟨D, oLst rb, ys⟩ :: O)) ∧
      DS X K B (f0 (some ⟨rLst rb, (xs.filter g).map f⟩)) O rest D0)
    (hi : X.N[i0]? = some n := by rfl) (hx : X.env.scope.names.lookup n = some .local := by rfl) (hv : own.map (·.2) = vs := by rfl) (hjs : ∀ j ∈ js, j ∈ vs := by decide)
    (hs : ∀ x, foldedSetIterable iter X.env x = pure x := by intro _; rfl) (hsw : swapsWith (.ListComp elt [⟨tg, iter, ifs, 0⟩] scope pos) (some (.Name n p)) spos.line X.env = pure true := by exact sw_true (by rfl) (by rfl) (by rfl) (by rfl)) :
    DS X K B Γ O (.Assign [.Name n p] (.ListComp elt [⟨tg, iter, ifs, 0⟩] scope pos) spos :: rest) D0 :=
  s_lc i0 own (ok ()) (l_lcF (ra := ra) (rb := rb) own vs h hv hjs) hi hx hs hsw
theorem s_lcP {X : Cx} [fam : Fam (Us X) P w K mg base k] (i0 : Nat) {f0 : Option Slot → Gm} [hg : SetG Γ i0 f0] {rest : List Stmt} {D0 : Ends} {spos : Pos} (own : List (Str × Nat)) (vs : List Nat) (ok : Unit → BlkOk X.N X.env.scope scope own) {Γ' : Gm} [hw : WipeG Γ vs Γ'] {js : List Nat} {f : α → β}
    (h : DI (Us X) K B Γ O tg iter ra fun xs O1 => O1 = O ∧ xs.length ≤ sizeLine ∧
      (∀ gg D ys x, x ∈ xs → DG (blkF (Us X) scope) K (B.push gg) Γ' (⟨D, oLst rb, ys⟩ :: O) tg ra x js fun Γ2 =>
        DW (blkF (Us X) scope) K (B.push gg) Γ2 (⟨D, oLst rb, ys⟩ :: O) elt rb fun y O3 => y = f x ∧ O3 = ⟨D, oLst rb, ys⟩ :: O) ∧ DS X K B (f0 (some ⟨rLst rb, xs.map f⟩)) O rest D0)
    (hi : X.N[i0]? = some n := by rfl) (hx : X.env.scope.names.lookup n = some .local := by rfl) (hv : own.map (·.2) = vs := by rfl) (hjs : ∀ j ∈ js, j ∈ vs := by decide)
    (hs : ∀ x, foldedSetIterable iter X.env x = pure x := by intro _; rfl) (hsw : swapsWith (.ListComp elt [⟨tg, iter, [], 0⟩] scope pos) (some (.Name n p)) spos.line X.env = pure true := by exact sw_true (by rfl) (by rfl) (by rfl) (by rfl)) :
    DS X K B Γ O (.Assign [.Name n p] (.ListComp elt [⟨tg, iter, [], 0⟩] scope pos) spos :: rest) D0 :=
  s_lc i0 own (ok ()) (l_lcP (ra := ra) (rb := rb) own vs h hv hjs) hi hx hs hsw
end
end Sk


set_option Elab.async false
set_option linter.all false
set_option maxRecDepth 100000
set_option maxHeartbeats 4100000
/-! Sk15: an own list is walked, while it stands as it is. -/
namespace Sk
open PySem L2 Evl
section
variable {ι : Type} {F : ι → Cx} {K : Fg} {B : Bs} {Γ : Gm} {O : List Own} {α β γ : Type} {ra : Rp α} {rb : Rp β} {rc : Rp γ} {a b c e elt tg iter : Expr} {es ifs : List Expr} {pos p : Pos} {n : Str} {scope : Scope}
variable {P : Program} {w : World} {mg : Str → Option Value} {base : Heap} {k : Nat} {own : List (Str × Nat)}
section
variable {σ : St} {G H H' : Hp} {q : Addr} {xs : List α} {i : Nat} {v : V}
theorem own_lst (m : (⟨q, oLst ra, xs⟩ : Own) ∈ O) (W : Ws K B Γ O σ G H) : ∃ vs, H q = some (.lst vs) ∧ All2 (ra.rep K G) vs xs := by
  obtain ⟨⟨o, h1, vs, h2, h3⟩, _⟩ := W.own _ m
  subst h2
  exact ⟨vs, h1, h3⟩
theorem own_go (m : (⟨q, oLst ra, xs⟩ : Own) ∈ O) (W : Ws K B Γ O σ G H) (hi : i < xs.length) : (Itl K q).go i H := by
  obtain ⟨vs, h1, h3⟩ := own_lst m W
  have hv : i < vs.length := by rw [h3.length]; exact hi
  exact ⟨vs, vs[i], SqL.of h1, List.getElem?_eq_getElem hv⟩
theorem own_stop (m : (⟨q, oLst ra, xs⟩ : Own) ∈ O) (W : Ws K B Γ O σ G H) : (Itl K q).stop xs.length H := by
  obtain ⟨vs, h1, h3⟩ := own_lst m W
  exact ⟨vs, SqL.of h1, by rw [h3.length]; exact Nat.le_refl _⟩
theorem own_yld (m : (⟨q, oLst ra, xs⟩ : Own) ∈ O) (W : Ws K B Γ O σ G H) (hi : i < xs.length) (y : (Itl K q).yld i H v H') : ∃ x G', xs[i]? = some x ∧ Stp B.T [] G H G' H' ∧ ra.rep K G' v x := by
  obtain ⟨vs, h1, h3⟩ := own_lst m W
  obtain ⟨e1, e2⟩ := y
  obtain ⟨x, hx, hr⟩ := h3.get (e2 vs (SqL.of h1))
  subst e1
  exact ⟨x, G, hx, Stp.refl W.sub, hr⟩
end
def DIo (F : ι → Cx) (K : Fg) (B : Bs) (Γ : Gm) (O : List Own) (tg e : Expr) (r : Rp α) (Φ : Addr → List α → List Own → Prop) : Prop :=
  ∀ σ G H, Ws K B Γ O σ G H → ∀ R : It → Hp → Prop, (∀ q xs O' G' H', Φ q xs O' → (⟨q, oLst r, xs⟩ : Own) ∈ O' → Ws K B Γ O' σ G' H' → Ex G G' → R (Itl K q) H') → WI F tg e σ H R
theorem w_own [fam : Fam F P w K mg base k] {Φ : Addr → List α → List Own → Prop} (h : DW F K B Γ O e rAdr fun q O1 => ∃ xs f, OwnAt O1 q (oLst ra) xs f ∧ Φ q xs O1) : DIo F K B Γ O tg e ra Φ := by
  intro σ G H W R q
  refine ⟨iList K (WE F e), fun i => by rw [← fam.ka i]; exact pi_list (WE.pe i), ?_⟩
  refine h σ G H W _ fun c O' v G' H' ⟨xs, f, hO, kk⟩ W' e' r' => ?_
  obtain ⟨j, hj, _⟩ := hO.at_
  have m := List.mem_of_getElem? hj
  obtain ⟨vs, h1, h3⟩ := own_lst m W'
  exact ⟨c, r', ⟨vs, SqL.of h1⟩, q c xs O' G' H' kk m W' e'⟩
theorem l_lcOw [fam : Fam F P w K mg base k] (own : List (Str × Nat)) (vs : List Nat) {Γ' : Gm} [hw : WipeG Γ vs Γ'] {js : List Nat} {Φ : Addr → List Own → Prop}
    (h : DIo F K B Γ O tg iter ra fun q0 xs O1 => ∃ (δ : Type) (Pv : Nat → List β → δ → Prop) (Of : δ → List Own), (∃ d, Pv 0 [] d ∧ O1 = Of d) ∧ (∀ i ys d, Pv i ys d → (⟨q0, oLst ra, xs⟩ : Own) ∈ Of d) ∧
      (∀ g D i x ys d, xs[i]? = some x → Pv i ys d → DG (blkF F scope) K (B.push g) Γ' (⟨D, oLst rb, ys⟩ :: Of d) tg ra x js fun Γ2 => DTs (blkF F scope) K (B.push g) Γ2 (⟨D, oLst rb, ys⟩ :: Of d) ifs fun t O2 =>
        (t = true → DW (blkF F scope) K (B.push g) Γ2 O2 elt rb fun y O3 => ∃ d', O3 = ⟨D, oLst rb, ys⟩ :: Of d' ∧ ys.length < sizeLine ∧ Pv (i + 1) (ys ++ [y]) d') ∧ (t = false → ∃ d', O2 = ⟨D, oLst rb, ys⟩ :: Of d' ∧ Pv (i + 1) ys d')) ∧
      (∀ D ys d, D ∉ B.M → Pv xs.length ys d → Φ D (⟨D, oLst rb, ys⟩ :: Of d)))
    (hv : own.map (·.2) = vs) (hjs : ∀ j ∈ js, j ∈ vs) : DL F K B Γ O elt tg iter ifs scope own rAdr Φ := by
  intro σ G H W Q q
  refine h σ G H W _ fun q0 xs O1 G1 H1 ⟨δ, Pv, Of, ⟨d0, p0, o0⟩, hmem, hst, hd⟩ _ W1 e1 D hD => ?_
  rw [hv]
  have hG : ∀ {G' : Hp}, Ex G1 G' → EnvR K G' σ Γ := fun e => W.env.mono (e1.trans e)
  refine ⟨fun i m H => m = xs.length - i ∧ i ≤ xs.length ∧ ∃ ys d G2, Pv i ys d ∧ Ws K (B.push G1) Γ' (⟨D, oLst rb, ys⟩ :: Of d) (wipe σ vs) G2 H, ⟨xs.length, by simp, Nat.zero_le _, [], d0, G1, p0, ?_⟩, ?_⟩
  · have W2 := (W1.newOwn hD (r := oLst rb) (x := []) ⟨[], rfl, trivial⟩).base
    rw [o0] at W2
    exact W2.env' (hw.env (hG (Ex.refl _)))
  rintro i m H2 ⟨rfl, hi, ys, d, G2, pd, W2⟩
  have eb : Ex G1 G2 := W2.bs G1 List.mem_cons_self
  by_cases hlt : i < xs.length
  · refine .inr ⟨own_go (List.mem_cons_of_mem _ (hmem i ys d pd)) W2 hlt, fun H' => i + 1 ≤ xs.length ∧ ∃ ys d G2, Pv (i + 1) ys d ∧ Ws K (B.push G1) Γ' (⟨D, oLst rb, ys⟩ :: Of d) (wipe σ vs) G2 H', fun H' ⟨l, z⟩ => ⟨xs.length - (i + 1), by omega, rfl, l, z⟩, fun v H3 y => ?_⟩
    obtain ⟨x, G3, hx, s3, r3⟩ := own_yld (List.mem_cons_of_mem _ (hmem i ys d pd)) W2 hlt y
    have W3 := W2.step s3
    refine hst G1 D i x ys d hx pd (wipe σ vs) G3 H3 v W3 r3 _ fun Γ2 σ2 q2 W4 wp => ⟨(wp vs hjs).trans wipe_wipe, ?_⟩
    refine q2 σ2 G3 H3 W4 _ fun t O2 G4 H4 kk W5 e5 => ?_
    have back : ∀ {O' : List Own} {G' H' : Hp}, Ws K (B.push G1) Γ2 O' σ2 G' H' → Ws K (B.push G1) Γ' O' (wipe σ vs) G' H' := fun W' => W'.env' (hw.env (hG (W'.bs G1 List.mem_cons_self)))
    cases t with
    | false =>
      obtain ⟨d', o2, p2⟩ := kk.2 rfl
      subst o2
      exact iteF ⟨hlt, ys, d', G4, p2, back W5⟩
    | true =>
      refine iteT ?_
      refine kk.1 rfl σ2 G4 H4 W5 _ fun y O3 u G5 H5 ⟨d', o3, hl, p3⟩ W6 e6 r6 => ?_
      subst o3
      obtain ⟨⟨ob, h1, ws, h2, h3⟩, _⟩ := W6.own _ List.mem_cons_self
      subst h2
      refine ⟨ws, h1, by rw [h3.length]; exact hl, hlt, ys ++ [y], d', G5, p3, ?_⟩
      exact back (W6.mutHd (r' := oLst rb) (x' := ys ++ [y]) ⟨ws ++ [u], rfl, h3.append ⟨r6, trivial⟩⟩)
  · obtain rfl : i = xs.length := by omega
    refine .inl ⟨own_stop (List.mem_cons_of_mem _ (hmem _ ys d pd)) W2, q D _ (.ref D) G2 H2 (hd D ys d (W1.notM hD) pd) (W2.unbase.env' (hG eb)) (e1.trans eb) rfl⟩
theorem l_lcFw [fam : Fam F P w K mg base k] (own : List (Str × Nat)) (vs : List Nat) {Γ' : Gm} [hw : WipeG Γ vs Γ'] {js : List Nat} {f : α → β} {g : α → Bool} {Φ : List β → List Own → Prop}
    (h : DIo F K B Γ O tg iter ra fun q0 xs O1 => O1 = O ∧ xs.length ≤ sizeLine ∧
      (∀ gg D ys x, x ∈ xs → DG (blkF F scope) K (B.push gg) Γ' (⟨D, oLst rb, ys⟩ :: O) tg ra x js fun Γ2 => DTs (blkF F scope) K (B.push gg) Γ2 (⟨D, oLst rb, ys⟩ :: O) ifs fun t O2 =>
        t = g x ∧ O2 = ⟨D, oLst rb, ys⟩ :: O ∧ (g x = true → DW (blkF F scope) K (B.push gg) Γ2 (⟨D, oLst rb, ys⟩ :: O) elt rb fun y O3 => y = f x ∧ O3 = ⟨D, oLst rb, ys⟩ :: O)) ∧
      Φ ((xs.filter g).map f) O)
    (hv : own.map (·.2) = vs) (hjs : ∀ j ∈ js, j ∈ vs) : DL F K B Γ O elt tg iter ifs scope own (rLst rb) Φ := by
  refine l_frz (l_lcOw (ra := ra) (rb := rb) own vs ?_ hv hjs)
  intro σ G H W R q
  refine h σ G H W R fun q0 xs O1 G1 H1 ⟨e1, hl, ht, hd⟩ hm0 W1 ee => q q0 xs O1 G1 H1 ⟨Unit, fun i ys _ => i ≤ xs.length ∧ ys = ((xs.take i).filter g).map f, fun _ => O, ⟨(), ⟨Nat.zero_le _, rfl⟩, e1⟩, fun _ _ _ _ => e1 ▸ hm0, fun gg D i x ys d hx ⟨hi, hy⟩ => ?_, fun D ys d hM ⟨_, hy⟩ => ?_⟩ hm0 W1 ee
  · have hlt : i < xs.length := (List.getElem?_eq_some_iff.mp hx).1
    have hmem := List.mem_of_getElem? hx
    have hlen : ys.length ≤ i := by
      rw [hy, List.length_map]
      refine Nat.le_trans (List.length_filter_le _ _) ?_
      rw [List.length_take]
      exact Nat.min_le_left _ _
    intro σ2 G2 H2 v W2 r2 Q2 q2
    refine ht gg D ys x hmem σ2 G2 H2 v W2 r2 Q2 fun Γ2 σ' p W' wp => q2 Γ2 σ' (fun σ3 G3 H3 W3 Q3 q3 => p σ3 G3 H3 W3 Q3 fun t O2 G4 H4 ⟨p1, p2, p3⟩ W4 e4 => q3 t O2 G4 H4 ?_ W4 e4) W' wp
    subst p1 p2
    refine ⟨fun ht => d_mono (p3 ht) fun y O3 ⟨z1, z2⟩ => ⟨(), z2, by omega, hlt, ?_⟩, fun ht => ⟨(), rfl, hlt, ?_⟩⟩
    · rw [take_snoc hx, List.filter_append, List.map_append, ← hy, z1]
      congr 1
      simp [ht]
    · rw [take_snoc hx, List.filter_append, List.map_append, ← hy]
      simp [ht]
  · rw [List.take_length] at hy
    subst hy
    exact ⟨_, _, rfl, hM, hd⟩
theorem l_lcPw [fam : Fam F P w K mg base k] (own : List (Str × Nat)) (vs : List Nat) {Γ' : Gm} [hw : WipeG Γ vs Γ'] {js : List Nat} {f : α → β} {Φ : List β → List Own → Prop}
    (h : DIo F K B Γ O tg iter ra fun q0 xs O1 => O1 = O ∧ xs.length ≤ sizeLine ∧
      (∀ gg D ys x, x ∈ xs → DG (blkF F scope) K (B.push gg) Γ' (⟨D, oLst rb, ys⟩ :: O) tg ra x js fun Γ2 =>
        DW (blkF F scope) K (B.push gg) Γ2 (⟨D, oLst rb, ys⟩ :: O) elt rb fun y O3 => y = f x ∧ O3 = ⟨D, oLst rb, ys⟩ :: O) ∧ Φ (xs.map f) O)
    (hv : own.map (·.2) = vs) (hjs : ∀ j ∈ js, j ∈ vs) : DL F K B Γ O elt tg iter [] scope own (rLst rb) Φ := by
  refine l_lcFw (ra := ra) (f := f) (g := fun _ => true) own vs ?_ hv hjs
  intro σ G H W R q
  refine h σ G H W R fun q0 xs O1 G1 H1 ⟨e1, hl, ht, hd⟩ hm0 W1 ee => q q0 xs O1 G1 H1 ⟨e1, hl, fun gg D ys x hx σ2 G2 H2 v W2 r2 Q2 q2 => ht gg D ys x hx σ2 G2 H2 v W2 r2 Q2 fun Γ2 σ' p W' wp => q2 Γ2 σ' (dts_nil ⟨rfl, rfl, fun _ => p⟩) W' wp, ?_⟩ hm0 W1 ee
  have e : xs.filter (fun _ => true) = xs := List.filter_eq_self.mpr fun _ _ => rfl
  rw [e]
  exact hd
/-- as a value -/
theorem d_lcL [fam : Fam F P w K mg base k] {r : Rp γ} {Φ : γ → List Own → Prop} (own : List (Str × Nat)) (ok : ∀ i, BlkOk (F i).N (F i).env.scope scope own) (h : DL F K B Γ O elt tg iter ifs scope own r Φ)
    (hs : ∀ i x, foldedSetIterable iter (F i).env x = pure x := by intro _ _; rfl) : DW F K B Γ O (.ListComp elt [⟨tg, iter, ifs, 0⟩] scope pos) r Φ := by
  intro σ G H W Q q
  refine ⟨tLc (WI F tg iter) (WG (blkF F scope) tg) (WTs (blkF F scope) ifs) (WE (blkF F scope) elt) (own.map (·.2)), fun i => pe_lc (fam.cm i) (fam.nd i) (WI.pi i) (ok i) (fun s H C cl fp => WG.pg (F := blkF F scope) (i, s, H, C, cl, fp))
    (fun s H C cl fp => WTs.pts (F := blkF F scope) (i, s, H, C, cl, fp)) (fun s H C cl fp => WE.pe (F := blkF F scope) (i, s, H, C, cl, fp)) (hs i), ?_⟩
  exact h σ G H W Q q
theorem d_lcOw [fam : Fam F P w K mg base k] (own : List (Str × Nat)) (vs : List Nat) (ok : ∀ i, BlkOk (F i).N (F i).env.scope scope own) {Γ' : Gm} [hw : WipeG Γ vs Γ'] {js : List Nat} {Φ : Addr → List Own → Prop}
    (h : DIo F K B Γ O tg iter ra fun q0 xs O1 => ∃ (δ : Type) (Pv : Nat → List β → δ → Prop) (Of : δ → List Own), (∃ d, Pv 0 [] d ∧ O1 = Of d) ∧ (∀ i ys d, Pv i ys d → (⟨q0, oLst ra, xs⟩ : Own) ∈ Of d) ∧
      (∀ g D i x ys d, xs[i]? = some x → Pv i ys d → DG (blkF F scope) K (B.push g) Γ' (⟨D, oLst rb, ys⟩ :: Of d) tg ra x js fun Γ2 => DTs (blkF F scope) K (B.push g) Γ2 (⟨D, oLst rb, ys⟩ :: Of d) ifs fun t O2 =>
        (t = true → DW (blkF F scope) K (B.push g) Γ2 O2 elt rb fun y O3 => ∃ d', O3 = ⟨D, oLst rb, ys⟩ :: Of d' ∧ ys.length < sizeLine ∧ Pv (i + 1) (ys ++ [y]) d') ∧ (t = false → ∃ d', O2 = ⟨D, oLst rb, ys⟩ :: Of d' ∧ Pv (i + 1) ys d')) ∧
      (∀ D ys d, D ∉ B.M → Pv xs.length ys d → Φ D (⟨D, oLst rb, ys⟩ :: Of d)))
    (hv : own.map (·.2) = vs := by rfl) (hjs : ∀ j ∈ js, j ∈ vs := by decide) (hs : ∀ i x, foldedSetIterable iter (F i).env x = pure x := by intro _ _; rfl) :
    DW F K B Γ O (.ListComp elt [⟨tg, iter, ifs, 0⟩] scope pos) rAdr Φ :=
  d_lcL own ok (l_lcOw (ra := ra) (rb := rb) own vs h hv hjs) hs
theorem d_lcFw [fam : Fam F P w K mg base k] (own : List (Str × Nat)) (vs : List Nat) (ok : ∀ i, BlkOk (F i).N (F i).env.scope scope own) {Γ' : Gm} [hw : WipeG Γ vs Γ'] {js : List Nat} {f : α → β} {g : α → Bool} {Φ : List β → List Own → Prop}
    (h : DIo F K B Γ O tg iter ra fun q0 xs O1 => O1 = O ∧ xs.length ≤ sizeLine ∧
      (∀ gg D ys x, x ∈ xs → DG (blkF F scope) K (B.push gg) Γ' (⟨D, oLst rb, ys⟩ :: O) tg ra x js fun Γ2 => DTs (blkF F scope) K (B.push gg) Γ2 (⟨D, oLst rb, ys⟩ :: O) ifs fun t O2 =>
        t = g x ∧ O2 = ⟨D, oLst rb, ys⟩ :: O ∧ (g x = true → DW (blkF F scope) K (B.push gg) Γ2 (⟨D, oLst rb, ys⟩ :: O) elt rb fun y O3 => y = f x ∧ O3 = ⟨D, oLst rb, ys⟩ :: O)) ∧
      Φ ((xs.filter g).map f) O)
    (hv : own.map (·.2) = vs := by rfl) (hjs : ∀ j ∈ js, j ∈ vs := by decide) (hs : ∀ i x, foldedSetIterable iter (F i).env x = pure x := by intro _ _; rfl) :
    DW F K B Γ O (.ListComp elt [⟨tg, iter, ifs, 0⟩] scope pos) (rLst rb) Φ :=
  d_lcL own ok (l_lcFw (ra := ra) (rb := rb) own vs h hv hjs) hs
theorem d_lcPw [fam : Fam F P w K mg base k] (own : List (Str × Nat)) (vs : List Nat) (ok : ∀ i, BlkOk (F i).N (F i).env.scope scope own) {Γ' : Gm} [hw : WipeG Γ vs Γ'] {js : List Nat} {f : α → β} {Φ : List β → List Own → Prop}
    (h : DIo F K B Γ O tg iter ra fun q0 xs O1 => O1 = O ∧ xs.length ≤ sizeLine ∧
      (∀ gg D ys x, x ∈ xs → DG (blkF F scope) K (B.push gg) Γ' (⟨D, oLst rb, ys⟩ :: O) tg ra x js fun Γ2 =>
        DW (blkF F scope) K (B.push gg) Γ2 (⟨D, oLst rb, ys⟩ :: O) elt rb fun y O3 => y = f x ∧ O3 = ⟨D, oLst rb, ys⟩ :: O) ∧ Φ (xs.map f) O)
    (hv : own.map (·.2) = vs := by rfl) (hjs : ∀ j ∈ js, j ∈ vs := by decide) (hs : ∀ i x, foldedSetIterable iter (F i).env x = pure x := by intro _ _; rfl) :
    DW F K B Γ O (.ListComp elt [⟨tg, iter, [], 0⟩] scope pos) (rLst rb) Φ :=
  d_lcL own ok (l_lcPw (ra := ra) (rb := rb) own vs h hv hjs) hs
theorem s_lcOw {X : Cx} [fam : Fam (Us X) P w K mg base k] (i0 : Nat) {f0 : Option Slot → Gm} [hg : SetG Γ i0 f0] {rest : List Stmt} {D0 : Ends} {spos : Pos} (own : List (Str × Nat)) (vs : List Nat) (ok : Unit → BlkOk X.N X.env.scope scope own) {Γ' : Gm} [hw : WipeG Γ vs Γ'] {js : List Nat}
    (h : DIo (Us X) K B Γ O tg iter ra fun q0 xs O1 => ∃ (δ : Type) (Pv : Nat → List β → δ → Prop) (Of : δ → List Own), (∃ d, Pv 0 [] d ∧ O1 = Of d) ∧ (∀ i ys d, Pv i ys d → (⟨q0, oLst ra, xs⟩ : Own) ∈ Of d) ∧
      (∀ g D i x ys d, xs[i]? = some x → Pv i ys d → DG (blkF (Us X) scope) K (B.push g) Γ' (⟨D, oLst rb, ys⟩ :: Of d) tg ra x js fun Γ2 => DTs (blkF (Us X) scope) K (B.push g) Γ2 (⟨D, oLst rb, ys⟩ :: Of d) ifs fun t O2 =>
        (t = true → DW (blkF (Us X) scope) K (B.push g) Γ2 O2 elt rb fun y O3 => ∃ d', O3 = ⟨D, oLst rb, ys⟩ :: Of d' ∧ ys.length < sizeLine ∧ Pv (i + 1) (ys ++ [y]) d') ∧ (t = false → ∃ d', O2 = ⟨D, oLst rb, ys⟩ :: Of d' ∧ Pv (i + 1) ys d')) ∧
      (∀ D ys d, D ∉ B.M → Pv xs.length ys d → DS X K B (f0 (some ⟨rAdr, D⟩)) (⟨D, oLst rb, ys⟩ :: Of d) rest D0))
    (hi : X.N[i0]? = some n := by rfl) (hx : X.env.scope.names.lookup n = some .local := by rfl) (hv : own.map (·.2) = vs := by rfl) (hjs : ∀ j ∈ js, j ∈ vs := by decide)
    (hs : ∀ x, foldedSetIterable iter X.env x = pure x := by intro _; rfl) (hsw : swapsWith (.ListComp elt [⟨tg, iter, ifs, 0⟩] scope pos) (some (.Name n p)) spos.line X.env = pure true := by exact sw_true (by rfl) (by rfl) (by rfl) (by rfl)) :
    DS X K B Γ O (.Assign [.Name n p] (.ListComp elt [⟨tg, iter, ifs, 0⟩] scope pos) spos :: rest) D0 :=
  s_lc i0 own (ok ()) (l_lcOw (ra := ra) (rb := rb) own vs h hv hjs) hi hx hs hsw
theorem s_lcFw {X : Cx} [fam : Fam (Us X) P w K mg base k] (i0 : Nat) {f0 : Option Slot → Gm} [hg : SetG Γ i0 f0] {rest : List Stmt} {D0 : Ends} {spos : Pos} (own : List (Str × Nat)) (vs : List Nat) (ok : Unit → BlkOk X.N X.env.scope scope own) {Γ' : Gm} [hw : WipeG Γ vs Γ'] {js : List Nat} {f : α → β} {g : α → Bool}
    (h : DIo (Us X) K B Γ O tg iter ra fun q0 xs O1 => O1 = O ∧ xs.length ≤ sizeLine ∧
      (∀ gg D ys x, x ∈ xs → DG (blkF (Us X) scope) K (B.push gg) Γ' (⟨D, oLst rb, ys⟩ :: O) tg ra x js fun Γ2 => DTs (blkF (Us X) scope) K (B.push gg) Γ2 (⟨D, oLst rb, ys⟩ :: O) ifs fun t O2 =>
        t = g x ∧ O2 = ⟨D, oLst rb, ys⟩ :: O ∧ (g x = true → DW (blkF (Us X) scope) K (B.push gg) Γ2 (⟨D, oLst rb, ys⟩ :: O) elt rb fun y O3 => y = f x ∧ O3 = ⟨D, oLst rb, ys⟩ :: O)) ∧
      DS X K B (f0 (some ⟨rLst rb, (xs.filter g).map f⟩)) O rest D0)
    (hi : X.N[i0]? = some n := by rfl) (hx : X.env.scope.names.lookup n = some .local := by rfl) (hv : own.map (·.2) = vs := by rfl) (hjs : ∀ j ∈ js, j ∈ vs := by decide)
    (hs : ∀ x, foldedSetIterable iter X.env x = pure x := by intro _; rfl) (hsw : swapsWith (.ListComp elt [⟨tg, iter, ifs, 0⟩] scope pos) (some (.Name n p)) spos.line X.env = pure true := by exact sw_true (by rfl) (by rfl) (by rfl) (by rfl)) :
    DS X K B Γ O (.Assign [.Name n p] (.ListComp elt [⟨tg, iter, ifs, 0⟩] scope pos) spos :: rest) D0 :=
  s_lc i0 own (ok ()) (l_lcFw (ra := ra) (rb := rb) own vs h hv hjs) hi hx hs hsw
theorem s_lcPw {X : Cx} [fam : Fam (Us X) P w K mg base k] (i0 : Nat) {f0 : Option Slot → Gm} [hg : SetG Γ i0 f0] {rest : List Stmt} {D0 : Ends} {spos : Pos} (own : List (Str × Nat)) (vs : List Nat) (ok : Unit → BlkOk X.N X.env.scope scope own) {Γ' : Gm} [hw : WipeG Γ vs Γ'] {js : List Nat} {f : α → β}
    (h : DIo (Us X) K B Γ O tg iter ra fun q0 xs O1 => O1 = O ∧ xs.length ≤ sizeLine ∧
      (∀ gg D ys x, x ∈ xs → DG (blkF (Us X) scope) K (B.push gg) Γ' (⟨D, oLst rb, ys⟩ :: O) tg ra x js fun Γ2 =>
        DW (blkF (Us X) scope) K (B.push gg) Γ2 (⟨D, oLst rb, ys⟩ :: O) elt rb fun y O3 => y = f x ∧ O3 = ⟨D, oLst rb, ys⟩ :: O) ∧ DS X K B (f0 (some ⟨rLst rb, xs.map f⟩)) O rest D0)
    (hi : X.N[i0]? = some n := by rfl) (hx : X.env.scope.names.lookup n = some .local := by rfl) (hv : own.map (·.2) = vs := by rfl) (hjs : ∀ j ∈ js, j ∈ vs := by decide)
    (hs : ∀ x, foldedSetIterable iter X.env x = pure x := by intro _; rfl) (hsw : swapsWith (.ListComp elt [⟨tg, iter, [], 0⟩] scope pos) (some (.Name n p)) spos.line X.env = pure true := by exact sw_true (by rfl) (by rfl) (by rfl) (by rfl)) :
    DS X K B Γ O (.Assign [.Name n p] (.ListComp elt [⟨tg, iter, [], 0⟩] scope pos) spos :: rest) D0 :=
  s_lc i0 own (ok ()) (l_lcPw (ra := ra) (rb := rb) own vs h hv hjs) hi hx hs hsw
end
section
variable {X : Cx} {K : Fg} {B : Bs} {Γ Γ' : Gm} {O O' : List Own} {α β : Type} {ra : Rp α} {D D0 : Ends} {e c tg iter : Expr} {rest body : List Stmt} {n : Str} {pos p : Pos}
variable {P : Program} {w : World} {mg : Str → Option Value} {base : Heap} {k : Nat}
theorem s_forO [fam : Fam (Us X) P w K mg base k] {js : List Nat}
    (h : DIo (Us X) K B Γ O tg iter ra fun q0 xs O1 => ∃ (δ : Type) (Pv : Nat → δ → Prop) (Γf : δ → Gm) (Of : δ → List Own), (∃ d, Pv 0 d ∧ Wk Γ (Γf d) ∧ O1 = Of d) ∧ (∀ i d, Pv i d → (⟨q0, oLst ra, xs⟩ : Own) ∈ Of d) ∧
      (∀ g i x d, xs[i]? = some x → Pv i d → DG (Us X) K (B.push g) (Γf d) (Of d) tg ra x js fun Γ' => DS X K (B.push g) Γ' (Of d) body (LpE X K (B.push g) (Pv (i + 1)) Γf Of rest D)) ∧
      (∀ d, Pv xs.length d → DS X K B (Γf d) (Of d) rest D))
    (hp : PassesOwn (model X.prog X.w) X.A X.env X.xe := by first | exact PassesOwn.never | assumption) (hs : ∀ x, foldedSetIterable iter X.env x = pure x := by intro _; rfl) : DS X K B Γ O (.For tg iter body [] pos :: rest) D := by
  intro σ G H W
  refine WSs.cons (ps_for hp (fam.cm ()) (WI.pi (F := Us X) ()) (WG.pg (F := Us X) ()) (WSs.pss (X := X)) hs) ?_
  refine h σ G H W _ fun q0 xs O1 G1 H1 ⟨δ, Pv, Γf, Of, ⟨d0, p0, w0, o0⟩, hmem, hst, hd⟩ _ W1 _ => ?_
  refine ⟨fun i m σ H => m = xs.length - i ∧ i ≤ xs.length ∧ LpJ K (B.push G1) (Pv i) Γf Of σ H, ⟨xs.length, by simp, Nat.zero_le _, d0, G1, p0, ?_⟩, ?_⟩
  · rw [← o0]
    exact (W1.wk w0).base
  rintro i m σ2 H2 ⟨rfl, hi, d, G2, pd, W2⟩
  by_cases hlt : i < xs.length
  · refine .inr ⟨own_go (hmem i d pd) W2 hlt, LpJ K (B.push G1) (Pv (i + 1)) Γf Of, fun σ' H' j => ⟨xs.length - (i + 1), by omega, rfl, hlt, j⟩, fun v H3 y => ?_⟩
    obtain ⟨x, G3, hx, s3, r3⟩ := own_yld (hmem i d pd) W2 hlt y
    exact hst G1 i x d hx pd σ2 G3 H3 v (W2.step s3) r3 _ fun Γ' σ' q W' _ => q σ' G3 H3 W'
  · obtain rfl : i = xs.length := by omega
    exact .inl ⟨own_stop (hmem _ d pd) W2, hd d pd σ2 G2 H2 W2.unbase⟩
end
end Sk


set_option Elab.async false
set_option linter.all false
set_option maxRecDepth 100000
set_option maxHeartbeats 4100000
/-! Sk16: comparisons in a row, as values. -/
namespace L2
open PySem PySem.Spec PyProof.Rows
variable {X : Cx}
/-- a op1 b op2 c op3 d -/
def tChain3 (r r' r2 : R2) (ta tb tc td : TE) : TE := fun σ H Q => ta σ H fun x H1 => tb σ H1 fun y H2 => r x y H2 fun z H3 => ∃ k, z = .bl k ∧
  (if k = true then tc σ H3 fun w' H4 => r' y w' H4 fun z' H5 => ∃ k', z' = .bl k' ∧ (if k' = true then td σ H5 fun u' H6 => r2 w' u' H6 Q else Q (.bl false) H5) else Q (.bl false) H3)
theorem pe_chain3 {a b c d : Expr} {pos : Pos} {ta tb tc td : TE} {op op' op2 : CmpOp} {r r' r2 : R2} (ho : OpR X (compareOp op) r) (ho' : OpR X (compareOp op') r') (ho2 : OpR X (compareOp op2) r2) (ha : PE X a ta) (hb : PE X b tb) (hc : PE X c tc) (hd : PE X d td)
    (hm : lastMarks [op, op', op2] [b, c, d] = false := by with_unfolding_all rfl) : PE X (.Compare a [op, op', op2] [b, c, d] pos) (tChain3 r r' r2 ta tb tc td) := by
  refine ⟨fun pins s σ H Q I h => ?_⟩
  refine Compare_chain (thn (ha.run pins s σ H _ I h) fun v s1 ⟨x, H1, I1, r1, q1⟩ => chain_link (thn (hb.run pins s1 σ H1 _ I1 q1) fun u s2 ⟨y, H2, I2, rr, q2⟩ =>
    thn (ho pins s2 σ H2 x y v u _ I2 r1 rr q2) fun d s3 ⟨z, H3, I3, r3, k, e, q3⟩ => ?_)) hm
  subst e
  cases r3
  refine wpAny_truthy_bool ?_
  cases k with
  | false => exact ite_ff ⟨.bl false, H3, I3, rfl, q3⟩
  | true =>
    refine ite_tt (chain_link (thn (hc.run pins s3 σ H3 _ I3 q3) fun w' s4 ⟨z', H4, I4, r4, q4⟩ => thn (ho' pins s4 σ H4 y z' u w' _ I4 rr r4 q4) fun d' s5 ⟨z2, H5, I5, r5, k2, e2, q5⟩ => ?_))
    subst e2
    cases r5
    refine wpAny_truthy_bool ?_
    cases k2 with
    | false => exact ite_ff ⟨.bl false, H5, I5, rfl, q5⟩
    | true => exact ite_tt (chain_last (thn (hd.run pins s5 σ H5 _ I5 q5) fun w2 s6 ⟨z3, H6, I6, r6, q6⟩ => ho2 pins s6 σ H6 z' z3 w' w2 Q I6 r4 r6 q6))
end L2
namespace Sk
open PySem L2 Evl
section
variable {ι : Type} {F : ι → Cx} {K : Fg} {B : Bs} {Γ : Gm} {O : List Own} {α β γ δ : Type} {ra : Rp α} {rb : Rp β} {rc : Rp γ} {rd : Rp δ} {a b c d : Expr} {pos : Pos}
theorem d_chain3 {op op' op2 : CmpOp} {Φ : Bool → List Own → Prop} (h : DW F K B Γ O a ra fun x O1 => DW F K B Γ O1 b rb fun y O2 => OW F K B Γ O2 (compareOp op) ra rb x y rBool fun z O3 =>
      (z = true → DW F K B Γ O3 c rc fun w O4 => OW F K B Γ O4 (compareOp op') rb rc y w rBool fun z' O5 => (z' = true → DW F K B Γ O5 d rd fun u O6 => OW F K B Γ O6 (compareOp op2) rc rd w u rBool Φ) ∧ (z' = false → Φ false O5)) ∧ (z = false → Φ false O3))
    (hm : lastMarks [op, op', op2] [b, c, d] = false := by with_unfolding_all rfl) : DW F K B Γ O (.Compare a [op, op', op2] [b, c, d] pos) rBool Φ := by
  intro σ G H W Q q
  refine ⟨_, fun i => pe_chain3 (wOp.op i) (wOp.op i) (wOp.op i) (WE.pe i) (WE.pe i) (WE.pe i) (WE.pe i) hm, ?_⟩
  refine h σ G H W _ fun x O1 v G1 H1 h1 W1 e1 r1 => ?_
  refine h1 σ G1 H1 W1 _ fun y O2 w G2 H2 h2 W2 e2 r2 => ?_
  refine h2 σ G2 H2 v w W2 (ra.mono e2 r1) r2 _ fun z O3 u G3 H3 k W3 e3 r3 => ⟨z, r3, ?_⟩
  have e13 := (e1.trans e2).trans e3
  cases z with
  | false => exact q false O3 _ G3 H3 (k.2 rfl) W3 e13 rfl
  | true =>
    refine k.1 rfl σ G3 H3 W3 _ fun w' O4 v4 G4 H4 h4 W4 e4 r4 => ?_
    refine h4 σ G4 H4 w v4 W4 (rb.mono (e3.trans e4) r2) r4 _ fun z' O5 u5 G5 H5 k5 W5 e5 r5 => ⟨z', r5, ?_⟩
    have e15 := (e13.trans e4).trans e5
    cases z' with
    | false => exact q false O5 _ G5 H5 (k5.2 rfl) W5 e15 rfl
    | true =>
      refine k5.1 rfl σ G5 H5 W5 _ fun u' O6 v6 G6 H6 h6 W6 e6 r6 => ?_
      exact h6 σ G6 H6 v4 v6 W6 (rc.mono (e5.trans e6) r4) r6 _ fun z O' u G' H' k W' e' r' => q z O' u G' H' k W' ((e15.trans e6).trans e') r'
end
end Sk


set_option Elab.async false
set_option linter.all false
set_option maxRecDepth 100000
set_option maxHeartbeats 4100000
/-! Sk17: a comprehension in a comprehension; small rules. -/
namespace Sk
open PySem L2 Evl
theorem lookup_rel {env : Env} : ∀ {names : List (Str × NameKind)} {x : Str}, names.lookup x = some .cell ∨ names.lookup x = some .free →
    (names.map fun (n, k) => if (k == NameKind.free && env.scope.kind == .function && env.kindOf n == some .cell) then (n, NameKind.cell) else (n, k)).lookup x = some .cell ∨
    (names.map fun (n, k) => if (k == NameKind.free && env.scope.kind == .function && env.kindOf n == some .cell) then (n, NameKind.cell) else (n, k)).lookup x = some .free
  | [], _, h => by simp at h
  | (n, k) :: r, x, h => by
    have ih := @lookup_rel env r x
    show List.lookup x ((if (k == NameKind.free && env.scope.kind == .function && env.kindOf n == some .cell) = true then (n, NameKind.cell) else (n, k)) :: _) = _ ∨ List.lookup x ((if (k == NameKind.free && env.scope.kind == .function && env.kindOf n == some .cell) = true then (n, NameKind.cell) else (n, k)) :: _) = _
    cases hx : x == n with
    | true =>
      simp only [List.lookup_cons, hx] at h
      by_cases hc : (k == NameKind.free && env.scope.kind == .function && env.kindOf n == some .cell) = true
      · rw [if_pos hc]
        simp [List.lookup_cons, hx]
      · rw [if_neg hc]
        simp only [List.lookup_cons, hx]
        exact h
    | false =>
      simp only [List.lookup_cons, hx] at h
      by_cases hc : (k == NameKind.free && env.scope.kind == .function && env.kindOf n == some .cell) = true
      · rw [if_pos hc]; simp only [List.lookup_cons, hx]; exact ih h
      · rw [if_neg hc]; simp only [List.lookup_cons, hx]; exact ih h
/-- a block in a block: what it takes from outside stands in the outer block -/
theorem blkOk_in {N : List Str} {outer inner : Scope} {env : Env} {own : List (Str × Nat)} (h : BlkOk N outer inner own) : BlkOk N (relabel outer env) inner own :=
  ⟨h.kind, h.uniq, h.ix, fun y hy e => lookup_rel (h.free y hy e), h.own⟩
/-- a block in a block, without names of the def -/
theorem blkOk_nf {N : List Str} {sc scope sc0 : Scope} {own : List (Str × Nat)} (h : BlkOk N { sc0 with names := [] } scope own) : BlkOk N sc scope own :=
  ⟨h.kind, h.uniq, h.ix, fun y hy e => by
    rcases h.free y hy e with z | z
    · exact absurd z (by simp)
    · exact absurd z (by simp), h.own⟩
section
variable {ι : Type} {F : ι → Cx} {K : Fg} {B : Bs} {Γ : Gm} {O : List Own} {α : Type} {ra : Rp α} {e : Expr}
/-- own objects are dropped -/
theorem d_sub {Φ : α → List Own → Prop} (h : DW F K B Γ O e ra fun x O1 => ∃ O2, List.Sublist O2 O1 ∧ Φ x O2) : DW F K B Γ O e ra Φ := fun σ G H W Q q =>
  h σ G H W Q fun x O1 v G1 H1 ⟨O2, hs, kk⟩ W1 e1 r1 => q x O2 v G1 H1 kk (W1.perm (fun w hw => hs.subset hw) fun z => z.sublist (hs.map _)) e1 r1
end
/-- a test whose answer does not matter -/
theorem dt_any {ι : Type} {F : ι → Cx} {K : Fg} {B : Bs} {Γ : Gm} {O : List Own} {e : Expr} {Φ : Bool → List Own → Prop} (h : DT F K B Γ O e fun _ O' => O' = O) (k : ∀ b, Φ b O) : DT F K B Γ O e Φ := dt_mono h fun b O' e1 => by
  subst e1
  exact k b
end Sk


set_option Elab.async false
set_option linter.all false
set_option maxRecDepth 100000
set_option maxHeartbeats 4100000
/-! Sk18: what a promise hands out is new; sorted keys of a dict. -/
namespace Sk
open PySem L2 Evl
section
variable {K : Fg} {B : Bs} {Γ : Gm} {O : List Own} {α β : Type} {ra : RpF α} {rb : Rp β} {pre : α → Prop} {own : α → List Own} {post : α → β → List Own → Prop} {T : List Addr}
theorem sw_mF {x : α} {Φ : β → List Own → Prop} (R : List Own) (hp : pre x) (hO : ∀ w ∈ own x ++ R, w ∈ O) (hn : (O.map (·.a)).Nodup → ((own x ++ R).map (·.a)).Nodup) (h : ∀ y O', post x y O' → (O'.map (·.a)).Nodup → (∀ w ∈ O', w.a ∉ (own x).map (·.a) → w.a ∉ B.M) → Φ y (O' ++ R))
    (hT : ∀ P ∈ T, P ∈ B.T := by first | exact fun _ h => h | (intro _ h; cases h)) : SW K B Γ O (spM K T ra pre own rb post) [] ra x rb Φ := by
  intro σ G H vs W rv Q q
  have W' : Ws K B Γ (own x ++ R) σ G H := W.perm hO hn
  have nd' := W'.nd
  rw [List.map_append] at nd'
  refine ⟨G, x, W.sub, fun P hP => W.tab P (hT P hP), by rw [List.append_nil]; exact rv, hp, fun w hw => ?_, (List.nodup_append.mp nd').1, fun v y O' G' H' s hO' hn' r hpost => ?_⟩
  · obtain ⟨h1, h2, h3, _⟩ := W'.own w (List.mem_append_left _ hw)
    exact ⟨h1, h2, fun z => h3 (hT _ z)⟩
  · have hM : ∀ c ∈ (own x).map (·.a), (c ∈ B.M ∨ B.H0 c = none) ∧ c ∉ B.T := fun c hc => by
      obtain ⟨w, hw, e⟩ := List.mem_map.mp hc
      obtain ⟨_, _, h3, h4⟩ := W'.own w (List.mem_append_left _ hw)
      rw [← e]
      exact ⟨h4.symm, h3⟩
    have s2 := s.tsub hT fun P hP => (hM P hP).2
    refine q y (O' ++ R) v G' H' (h y O' hpost hn' fun w hw hnn => W.notM ((hO' w hw).2.2.2.resolve_right hnn)) ⟨W.st.trans s2 fun c hc => (hM c hc).1, fun P hP => ⟨s2.tab P hP (W.tab P hP).1, ?_⟩, fun g hg => (W.bs g hg).trans s.g, W.env.mono s.g, fun w hw => ?_, ?_, W.mh⟩ s.g r
    · cases e : G' P with
      | none => rfl
      | some o =>
        have z := s.fr P (W.tab P hP).2 (by rw [e]; simp)
        obtain ⟨⟨ps, h1, _⟩, _⟩ := W.tab P hP
        rw [h1] at z
        cases z
    · rcases List.mem_append.mp hw with z | z
      · obtain ⟨h1, h2, h3, h4⟩ := hO' w z
        refine ⟨h1, h2, fun hw' => ?_, ?_⟩
        · by_cases hT' : w.a ∈ T
          · exact h3 hT'
          · rcases h4 with h4 | h4
            · obtain ⟨⟨ps, g1, _⟩, _⟩ := W.tab _ hw'
              rw [g1] at h4
              cases h4
            · exact (hM _ h4).2 hw'
        · rcases h4 with h4 | h4
          · exact .inl (W.free h4)
          · exact (hM _ h4).1.symm
      · obtain ⟨⟨o, h1, h2⟩, h3, h4, h5⟩ := W'.own w (List.mem_append_right _ z)
        have nM : w.a ∉ (own x).map (·.a) := fun c => (List.nodup_append.mp nd').2.2 _ c _ (List.mem_map.mpr ⟨w, z, rfl⟩) rfl
        refine ⟨⟨o, s2.h _ _ h1 h4 nM, w.r.mono s.g h2⟩, ?_, h4, h5⟩
        cases e : G' w.a with
        | none => rfl
        | some u =>
          have z := s.fr _ h3 (by rw [e]; simp)
          rw [h1] at z
          cases z
    · rw [List.map_append]
      refine List.nodup_append.mpr ⟨hn', (List.nodup_append.mp nd').2.1, fun c hc d hd e => ?_⟩
      subst e
      obtain ⟨w, hw, ew⟩ := List.mem_map.mp hc
      obtain ⟨w2, hw2, ew2⟩ := List.mem_map.mp hd
      obtain ⟨_, _, _, h4⟩ := hO' w hw
      obtain ⟨⟨o, h1, _⟩, _⟩ := W'.own w2 (List.mem_append_right _ hw2)
      rw [ew2, ← ew] at h1
      rcases h4 with h4 | h4
      · rw [h1] at h4
        cases h4
      · rw [ew] at h4
        exact (List.nodup_append.mp nd').2.2 c h4 c hd rfl
end
section
variable {K : Fg} {B : Bs} {Γ : Gm} {O : List Own} {α β γ : Type} {ra : RpF α} {rb : Rp β} {pre : α → Prop} {T : List Addr}
theorem sw_gF {x : α} {q : Addr} {δ : Type} {r : Ow δ} {d : δ} {f : Own → List Own} {own : α → Own} {post : α → β → List Own → Prop} {Φ : β → List Own → Prop} [ho : OwnAt O q r d f] (hp : pre x) (h : ∀ y O', post x y O' → ∃ L, O' = L ++ [own x] ∧ ((∀ w ∈ L, w.a ∉ B.M) → Φ y (L ++ O))) (e : own x = ⟨q, r, d⟩ := by rfl)
    (hT : ∀ P ∈ T, P ∈ B.T := by first | exact fun _ h => h | (intro _ h; cases h)) : SW K B Γ O (spM K T ra pre (fun x => [own x]) rb post) [] ra x rb Φ := by
  obtain ⟨j, h1, _⟩ := ho.at_
  have hl : j < O.length := (List.getElem?_eq_some_iff.mp h1).1
  have hg : O[j] = own x := by
    rw [e]
    exact (List.getElem?_eq_some_iff.mp h1).2
  intro σ G H vs W rv Q q'
  have split : O = O.take j ++ own x :: O.drop (j + 1) := by
    rw [← hg]
    exact (List.take_append_drop j O).symm.trans (by rw [List.drop_eq_getElem_cons hl])
  have perm : ([own x] ++ (O.take j ++ O.drop (j + 1))).Perm O := by
    have p1 : (O.take j ++ own x :: O.drop (j + 1)).Perm (own x :: (O.take j ++ O.drop (j + 1))) := List.perm_middle
    exact p1.symm.trans (by rw [← split])
  refine sw_mF (Φ := fun y O' => ∃ L, O' = L ++ [own x] ++ (O.take j ++ O.drop (j + 1)) ∧ Φ y (L ++ O)) (O.take j ++ O.drop (j + 1)) hp (fun v hv => perm.mem_iff.mp hv) (fun z => ((perm.map (·.a)).nodup_iff).mpr z) (fun y O' p pn pf => ?_) hT σ G H vs W rv Q fun z O' u G' H' ⟨L, k1, k2⟩ W' e' r' => q' z (L ++ O) u G' H' k2 ?_ e' r'
  · obtain ⟨L, e1, e2⟩ := h y O' p
    refine ⟨L, by rw [e1], e2 fun w hw => pf w (by rw [e1]; exact List.mem_append_left _ hw) fun z => ?_⟩
    have ez : w.a = (own x).a := by simpa using z
    rw [e1, List.map_append] at pn
    exact (List.nodup_append.mp pn).2.2 w.a (List.mem_map.mpr ⟨w, hw, rfl⟩) (own x).a (by simp) ez
  · subst k1
    have perm2 : (L ++ [own x] ++ (O.take j ++ O.drop (j + 1))).Perm (L ++ O) := by
      rw [List.append_assoc]
      exact perm.append_left L
    exact W'.perm (fun v hv => perm2.mem_iff.mpr hv) fun z => ((perm2.map (·.a)).nodup_iff).mp z
theorem sw_1NF {x : α} {q : Addr} {δ ε : Type} {r : Ow δ} {d : δ} {f : Own → List Own} {own : α → Own} {r' : Ow ε} {post : α → ε → Prop} {Φ : Addr → List Own → Prop} [ho : OwnAt O q r d f] (hp : pre x) (h : ∀ p d', post x d' → p ∉ B.M → Φ p (⟨p, r', d'⟩ :: O)) (e : own x = ⟨q, r, d⟩ := by rfl)
    (hT : ∀ P ∈ T, P ∈ B.T := by first | exact fun _ h => h | (intro _ h; cases h)) : SW K B Γ O (sp1N K T ra pre own r' post) [] ra x rAdr Φ :=
  sw_gF (ho := ho) hp (fun y O' ⟨d', p, e2⟩ => ⟨[⟨y, r', d'⟩], by rw [e2]; rfl, fun hf => h y d' p (hf _ List.mem_cons_self)⟩) e hT
theorem sw_nF {x : α} {δ : Type} {r' : Ow δ} {post : α → δ → Prop} {Φ : Addr → List Own → Prop} (hp : pre x) (h : ∀ q d, post x d → q ∉ B.M → Φ q (⟨q, r', d⟩ :: O)) (hT : ∀ P ∈ T, P ∈ B.T := by first | exact fun _ h => h | (intro _ h; cases h)) : SW K B Γ O (spN K T ra pre r' post) [] ra x rAdr Φ :=
  sw_mF O hp (fun w hw => hw) (fun z => z) (fun q O' ⟨d, p, e⟩ _ hf => by subst e; exact h q d p (hf _ List.mem_cons_self (by simp))) hT
end
section
variable {ι : Type} {F : ι → Cx} {K : Fg} {B : Bs} {Γ : Gm} {O : List Own} {α β : Type} {ra : Rp α} {rb : Rp β}
variable {P : Program} {w : World} {mg : Str → Option Value} {base : Heap} {k : Nat}
theorem all2_str : ∀ ys : List Str, All2 (fun v x => v = V.str x) (ys.map V.str) ys
  | [] => trivial
  | _ :: ys => ⟨rfl, all2_str ys⟩
theorem dic_keys {p : V → β → Prop} : ∀ {kvs : List (Key × V)} {xs : List (Key × β)}, DicR p kvs xs → kvs.map (·.1) = xs.map (·.1)
  | [], [], _ => rfl
  | _ :: _, _ :: _, ⟨a, _, c⟩ => by rw [List.map_cons, List.map_cons, a, dic_keys c]
  | [], _ :: _, z => z.elim
  | _ :: _, [], z => z.elim
/-- sorted(d), the keys texts -/
theorem c_sortedD {x : α} {xs : List (Key × β)} {ks : List Str} [hd : DkR O ra x rb xs] {Φ : List Str → List Own → Prop} (hk : xs.map (·.1) = ks.map Sum.inr) (hl : ks.length < 64) (kk : ∀ ys, ys.Perm ks → PyProof.Rows.sortedS ys = true → Φ ys O)
    (hc : ∀ j, (F j).calm = true := by intro _; rfl) : CW F K B Γ O (.builtin "sorted") (fOne ra) x (rLst rStr) Φ := fun σ G H vs W ⟨v, e, rv⟩ Q q => by
  obtain ⟨c, kvs, h1, h2, h3⟩ := hd.get W rv
  refine ⟨_, fun j => call_sortedD (hc j), c, kvs, ks, by rw [e, h1], .inl h2, by rw [dic_keys h3]; exact hk, hl, fun ys p hp hs hn => ?_⟩
  have s : Stp B.T [] G H (upd G p (.lst (ys.map V.str))) (upd H p (.lst (ys.map V.str))) := Stp.new W.sub hn
  exact q ys O _ _ _ (kk ys hp hs) (W.step s) s.g ⟨p, _, rfl, upd_same, all2_str ys⟩
theorem bt_sorted : bootBuiltins "sorted" = some (.builtin "sorted") := by decide +kernel
end
end Sk


set_option Elab.async false
set_option linter.all false
set_option maxRecDepth 100000
set_option maxHeartbeats 4100000
/-! Sk19: max, min of three; the truth of a list; things that may be None, compared. -/
namespace Sk
open PySem L2 Evl
section
variable {ι : Type} {F : ι → Cx} {K : Fg} {B : Bs} {Γ : Gm} {O : List Own} {α β : Type} {ra : Rp α} {rb : Rp β} {e : Expr}
theorem nuMax3_int (i j k : Int) : nuMax3 (.int i) (.int j) (.int k) = some (.int (if k > (if j > i then j else i) then k else (if j > i then j else i))) := by
  show ((some (if decide (i < j) = true then V.int j else V.int i)).bind fun m => nuMax2 m (.int k)) = _
  by_cases h : i < j
  · rw [decide_eq_true h, if_pos rfl, if_pos h]
    show some (if decide (j < k) = true then V.int k else V.int j) = _
    by_cases h2 : j < k
    · rw [decide_eq_true h2, if_pos rfl, if_pos h2]
    · rw [decide_eq_false h2, if_neg (by decide), if_neg h2]
  · rw [decide_eq_false h, if_neg (by decide), if_neg h]
    show some (if decide (i < k) = true then V.int k else V.int i) = _
    by_cases h2 : i < k
    · rw [decide_eq_true h2, if_pos rfl, if_pos h2]
    · rw [decide_eq_false h2, if_neg (by decide), if_neg h2]
theorem nuMin3_int (i j k : Int) : nuMin3 (.int i) (.int j) (.int k) = some (.int (if k < (if j < i then j else i) then k else (if j < i then j else i))) := by
  show ((some (if decide (j < i) = true then V.int j else V.int i)).bind fun m => nuMin2 m (.int k)) = _
  by_cases h : j < i
  · rw [decide_eq_true h, if_pos rfl, if_pos h]
    show some (if decide (k < j) = true then V.int k else V.int j) = _
    by_cases h2 : k < j
    · rw [decide_eq_true h2, if_pos rfl, if_pos h2]
    · rw [decide_eq_false h2, if_neg (by decide), if_neg h2]
  · rw [decide_eq_false h, if_neg (by decide), if_neg h]
    show some (if decide (k < i) = true then V.int k else V.int i) = _
    by_cases h2 : k < i
    · rw [decide_eq_true h2, if_pos rfl, if_pos h2]
    · rw [decide_eq_false h2, if_neg (by decide), if_neg h2]
theorem c_max3 {x : Int × Int × Int} {Φ : Int → List Own → Prop} (k : Φ (if x.2.2 > (if x.2.1 > x.1 then x.2.1 else x.1) then x.2.2 else (if x.2.1 > x.1 then x.2.1 else x.1)) O) (hc : ∀ j, (F j).calm = true := by intro _; rfl) : CW F K B Γ O (.builtin "max") (fCons rInt (fCons rInt (fOne rInt))) x rInt Φ :=
  fun σ G H vs W ⟨v, ws, e, rv, u, us, e2, ru, t, e3, rt⟩ Q q => ⟨_, fun j => call_max3Nu (hc j), .int x.1, .int x.2.1, .int x.2.2, _, by rw [e, e2, e3, show v = V.int x.1 from rv, show u = V.int x.2.1 from ru, show t = V.int x.2.2 from rt], nuMax3_int _ _ _, q _ O _ G H k W (Ex.refl _) rfl⟩
theorem c_min3 {x : Int × Int × Int} {Φ : Int → List Own → Prop} (k : Φ (if x.2.2 < (if x.2.1 < x.1 then x.2.1 else x.1) then x.2.2 else (if x.2.1 < x.1 then x.2.1 else x.1)) O) (hc : ∀ j, (F j).calm = true := by intro _; rfl) : CW F K B Γ O (.builtin "min") (fCons rInt (fCons rInt (fOne rInt))) x rInt Φ :=
  fun σ G H vs W ⟨v, ws, e, rv, u, us, e2, ru, t, e3, rt⟩ Q q => ⟨_, fun j => call_min3Nu (hc j), .int x.1, .int x.2.1, .int x.2.2, _, by rw [e, e2, e3, show v = V.int x.1 from rv, show u = V.int x.2.1 from ru, show t = V.int x.2.2 from rt], nuMin3_int _ _ _, q _ O _ G H k W (Ex.refl _) rfl⟩
/-- a list as a test -/
theorem dt_tru {Φ : Bool → List Own → Prop} (h : DW F K B Γ O e ra fun x O1 => ∃ (γ : Type) (rc : Rp γ) (xs : List γ), LsR O1 ra x rc xs ∧ Φ (!xs.isEmpty) O1) (hK : ∀ j, (F j).K = K := by intro _; rfl)
    (he : ∀ i whole, isTrue e (F i).env whole = (do let v ← whole; standAt e.pos; holding [v] (truthy v)) := by intro _ _; rfl) : DT F K B Γ O e Φ := by
  intro σ G H W Q q
  refine ⟨fun σ H Q => WE F e σ H fun x H' => ∃ k, TruV K x H' k ∧ Q k H', fun i => by
    have p := pt_truth (WE.pe (F := F) (e := e) i) (he i)
    rw [hK i] at p
    exact p, ?_⟩
  refine h σ G H W _ fun x O1 v G1 H1 ⟨γ, rc, xs, hl, kk⟩ W1 e1 r1 => ?_
  obtain ⟨c, vs, h1, h2, h3⟩ := hl.get W1 r1
  subst h1
  refine ⟨!xs.isEmpty, .inl ⟨vs, h2, ?_⟩, q _ O1 G1 H1 kk W1 e1⟩
  have hn := h3.length
  cases vs with
  | nil =>
    cases xs with
    | nil => rfl
    | cons _ _ => simp at hn
  | cons _ _ =>
    cases xs with
    | nil => simp at hn
    | cons _ _ => rfl
/-- a tuple or None, compared -/
instance datOptT {f : RpF β} {enc : β → List PyData} {m : Nat} {good : β → Prop} [hf : DatF f enc m good] : Dat (rOpt (rTup f)) (fun x => match x with | none => PyData.none | some y => PyData.tuple (enc y)) (m + 1) (fun x => ∀ y, x = some y → good y) :=
  ⟨fun {K G H v x} e h => by
    cases x with
    | none =>
      rw [show v = V.non from h]
      exact .non
    | some y => exact (datTup (f := f)).dp e h.2, fun {x} h => by
    cases x with
    | none => rfl
    | some y => exact (datTup (f := f)).lay (h y rfl), fun x => by
    cases x with
    | none => exact Nat.zero_le _
    | some y => exact (datTup (f := f)).dep y, fun x y => by
    cases x with
    | none =>
      cases y with
      | none => exact ⟨fun _ => rfl, fun _ => rfl⟩
      | some b => exact ⟨fun h => Bool.noConfusion (show false = true from h), fun h => by cases h⟩
    | some a =>
      cases y with
      | none => exact ⟨fun h => Bool.noConfusion (show false = true from h), fun h => by cases h⟩
      | some b =>
        refine ((datTup (f := f)).eqv a b).trans ?_
        exact ⟨fun h => by rw [h], fun h => Option.some.inj h⟩⟩
end
section
variable {α β γ δ : Type}
instance (priority := high) fsetL {f : RpF α} {r : Rp β} {n : Nat} [h : Len f n] : FSet (fApp f r) n r (fun x y => (x.1, y)) := ⟨fun ⟨ws, v, h1, h2, h3⟩ q => ⟨ws, _, by
  rw [h1, ← h.len h2, List.set_append_right _ _ (Nat.le_refl _), Nat.sub_self]
  rfl, h2, q⟩⟩
instance (priority := low) fsetI {f : RpF α} {r : Rp β} {i : Nat} {r' : Rp γ} {g : α → γ → α} {r2 : Rp δ} {g2 : α → δ} [h : FSet f i r' g] [h' : FAt f i r2 g2] : FSet (fApp f r) i r' (fun x y => (g x.1 y, x.2)) := ⟨fun ⟨ws, v, h1, h2, h3⟩ q => ⟨_, v, by
  obtain ⟨u, h4, _⟩ := h'.get h2
  rw [h1, List.set_append_left _ _ (List.getElem?_eq_some_iff.mp h4).1], h.set h2 q, h3⟩⟩
end
theorem rt_some {K : Fg} {B : Bs} {Γ : Gm} {O : List Own} {α : Type} {r : Rp α} [hn : NotNon r] {x : α} {D : Ends} (h : RT K B Γ O (rOpt r) (some x) D) : RT K B Γ O r x D := fun v σ G H W rv => h v σ G H W (opt_some rv)
theorem rt_none {K : Fg} {B : Bs} {Γ : Gm} {O : List Own} {α : Type} {r : Rp α} {u : Unit} {D : Ends} (h : RT K B Γ O (rOpt r) none D) : RT K B Γ O rNon u D := fun v σ G H W rv => h v σ G H W rv
end Sk


set_option Elab.async false
set_option linter.all false
set_option maxRecDepth 100000
set_option maxHeartbeats 4100000
/-! Sk20: t + u of tuples. -/
namespace Sk
open PySem L2 Evl
section
variable {ι : Type} {F : ι → Cx} {K : Fg} {B : Bs} {Γ : Gm} {O : List Own} {α β : Type} {ra : Rp α} {rb : Rp β} {e : Expr}
theorem o_catT {xs ys : List β} {Φ : List β → List Own → Prop} (hx : xs ≠ []) (hy : ys ≠ []) (hz : xs.length + ys.length ≤ sizeLine) (kk : Φ (xs ++ ys) O) (hK : ∀ j, (F j).K = K := by intro _; rfl) : OW F K B Γ O (binaryOp .Add) (rTpv rb) (rTpv rb) xs ys (rTpv rb) Φ := by
  intro σ G H v u W ⟨c, vs, a1, a2, a3⟩ ⟨d, us, b1, b2, b3⟩ Q q
  have n1 : vs ≠ [] := fun e => by
    have := a3.length
    rw [e] at this
    exact hx (List.eq_nil_of_length_eq_zero this.symm)
  have n2 : us ≠ [] := fun e => by
    have := b3.length
    rw [e] at this
    exact hy (List.eq_nil_of_length_eq_zero this.symm)
  refine ⟨rCatT K, fun j => by rw [← hK j]; exact op_catT, c, d, vs, us, a1, b1, ex_t W.sub a2, ex_t W.sub b2, n1, by rw [a3.length, b3.length]; exact hz, fun e => absurd e n2, fun _ p hp => ?_⟩
  have s : Stp B.T [] G H (upd G p (.tup (vs ++ us))) (upd H p (.tup (vs ++ us))) := Stp.new W.sub hp
  exact q _ O _ _ _ kk (W.step s) s.g ⟨p, _, rfl, SqT.of upd_same, (a3.append b3).mono fun _ _ z => rb.mono s.g z⟩
end
end Sk


set_option Elab.async false
set_option linter.all false
set_option maxRecDepth 100000
set_option maxHeartbeats 4100000
/-! Sk21: own exceptions over ValueError whose __init__ begins with super().__init__(e). -/
namespace Sk
open PySem PySem.Spec PyProof.Rows L2 NdefX PySem.W
/-- what the written part says of the __init__ of an own exception -/
structure XIni (mo : Module) (K : PySem.W.Frag) (mg : Str → Option Value) (C : Addr) (qual : Str) (st : Stmt) (f : Addr) (fd : FuncData) : Prop where
  T : OexC K C
  ex : ∃ (oc : Value) (od : Option Addr) (kV doc pm : Value) (an : Option Addr) (cda : Addr) (ct : Value) (osl : Array (Option Value)) (cc : Addr),
    fd = PySem.W.fnX "__init__" qual (defArgs st) (defBody st) (defScope st) [("__class__", cc)] .none kV doc pm an (.ref cda) ct ∧ K.lookup f = some ⟨oc, od, .func fd, osl⟩ ∧ PySem.W.codeIn K (.ref cda) qual = true ∧
    (∃ ccl cdd vs ccs file tf, K.lookup cda = some ⟨ccl, cdd, .fields vs, ccs⟩ ∧ vs[2]? = some (.str file tf) ∧ ((mo.file : Str) == file) = true) ∧ ∃ cl cld csl, K.lookup cc = some ⟨cl, cld, .cell (some (.ref C)), csl⟩
  sub : PySem.W.mroIn K C (.ref C) = some true
  sup : mg "super" = none
  top : (mo.scope.names.lookup ("super" : Str)).isSome = false
  nxt : PySem.W.ks_superIn K C C "__init__" = some (some (.builtin "ValueError.__init__"))
  ve : PySem.W.subIn K (.ref C) (.type "ValueError") = some true
  op : PySem.W.nsIn K cStatics "thirdparty.any" = some none
abbrev nfX (qual : Str) (st : Stmt) (cc cda : Addr) : NF := ⟨"__init__", qual, defArgs st, defBody st, defScope st, [("__class__", cc)], cda⟩
section
variable {X : Cx} {pins : List (Addr × Obj)} {σ : L2.St} {H : Hp} {s : Shared} {a C u : Addr} {A : Around} {E : Value → Shared → Prop}
/-- the built-in __init__, bound to the exception, called -/
theorem winit_ok {us : List Value} {Q : Value → Shared → Prop} (T : OexC X.K C) (I : Inv X pins σ H s) (e : H a = some (exo a C none)) (hu : s.heap.get? u = some (kxs_mw "ValueError.__init__" a)) (hl : us.length ≤ sizeLine) (h : ∀ s', Inv X pins σ H s' → Q .none s') :
    wpAny (model X.prog X.w) A (call (.ref u) us) Q E s := by
  obtain ⟨nm, q, N, bs, bm, sn, sub, ab, col, dd, k0, k1, k2, k3, k5, hC, hbm⟩ := T.cls
  obtain ⟨t1, ho⟩ := exo_at I.hok e
  obtain ⟨hp, g, d, t, os⟩ := s
  have FB := F.excBase_ValueError
  refine wpAny_call (codeAny_of_tree ?_)
  show wpAny _ A.in1 (callAny (.ref u) ⟨us, []⟩) _ _ _
  simp only [callAny]
  refine wpAny_bind (wpAny_load hu ?_)
  simp only [kxs_mw, show (Value.type "method-wrapper" == Value.type "method" || Value.type "method-wrapper" == Value.type "builtin_function_or_method" || Value.type "method-wrapper" == Value.type "method-wrapper") = true by decide, if_true]
  refine KFB.if_so (by decide) ?_
  refine wpAny_bind (check_bound_init FB.toExcCallFacts (I.kIn _ _ hC) ho rfl ?_)
  refine wpAny_bind (wpAny_pure (wpAny_pure ?_))
  refine ⟨plainId_quiet FB.init.plain _, codeAny_builtin FB.initEntry ?_⟩
  refine exc_init_tree (cls := .ref C) (t0 := t1) (dv := none) (c2 := .none) (c3 := .none) (b4 := .bool false) ho hl fun h' k hx _ => ?_
  have J := I.write (t' := t) (x := a) (e := a) (o := exo a C none) (by rw [e]; exact True.intro) (.inl rfl) k ⟨_, hx⟩ (exo_ok hx)
  have eu : upd H a (exo a C none) = H := by
    funext b
    by_cases hb : b = a
    · rw [hb, upd_same, e]
    · rw [upd_ne hb]
  rw [eu] at J
  exact h _ J
end
section
variable {P : Program} {w : World} {K : PySem.W.Frag} {mg : Str → Option Value} {base : Heap} {C : Addr} {qual : Str} {st : Stmt} {f : Addr} {fd : FuncData} {N ps : List Str} {k : Nat} {sp : L2.Sp}
/-- THE RULE for __init__ of an own exception -/
theorem xini_ok {p0 p1 p2 p3 p4 : Pos} {e : Expr} {es : List Expr} {rest : List Stmt} {ar : Arg} {mo : Module} (Fx : XIni mo K mg C qual st f fd) (hP : P.main = mo) (S : NScope N ps ["__class__"] (defScope st)) (hks : (defScope st).names.lookup ("super" : Str) = some .globalImplicit)
    (hp : ((defArgs st).posonlyargs ++ (defArgs st).args).head? = some ar) (har : ps.head? = some ar.arg)
    (hbd : defBody st = .Expr (.Call (.Attribute (.Call (.Name "super" p0) [] [] p1) "__init__" p2) (e :: es) [] p3) p4 :: rest) (len : ∀ vs H Q E, sp vs H Q E → vs.length = ps.length)
    (hbody : ∀ (cc cda : Addr) (A : Around) (outer : List Env) (s : Shared) (H : Hp) (vs : List V) (Q : VK) (E : XK), Room k (A.deeper (envF (nfX qual st cc cda) f s.heap.objs.size)) → sp vs H Q E →
      ∃ a te t, vs.head? = some (.ref a) ∧ PA (ncx CX0 P w K mg base N (nfX qual st cc cda) f A outer s H E) (e :: es) te ∧ PSs (ncx CX0 P w K mg base N (nfX qual st cc cda) f A outer s H E) rest t ∧ H a = some (exo a C none) ∧
        te (startF N vs [some (.ref C)]) H fun vs1 H1 => vs1.length ≤ 1000 ∧ H1 a = some (exo a C none) ∧ t { nx := fun _ H' => Q .non H', rt := Q } (startF N vs [some (.ref C)]) H1)
    (hev : ∀ env, ∃ pl : Sem Bool, eval (.Call (.Attribute (.Call (.Name "super" p0) [] [] p1) "__init__" p2) (e :: es) [] p3) env = (do
      let ov ← attributeBase (.Call (.Name "super" p0) [] [] p1) "__init__" env (eval (.Call (.Name "super" p0) [] [] p1) env)
      standAt p2.atName
      let (f, first) ← holding [ov] (getMethod ov "__init__" pl)
      callWith p3 f first (backTo p3 (starEach (e :: es) env)) []) := by intro env; exact ⟨_, rfl⟩)
    (hst : ∀ env, starEach (e :: es) env = (false, eval e env) :: starEach es env := by intro _; rfl) (hpl : ∀ env, (backTo p3 (starEach es env)).any (·.1) = false := by intro _; rfl)
    (hsw : ∀ env, swapsWith (.Call (.Attribute (.Call (.Name "super" p0) [] [] p1) "__init__" p2) (e :: es) [] p3) none p4.line env = pure false := by intro _; rfl) :
    FnOk P w K mg base CX0 (k + 1) f fd ps sp := by
  obtain ⟨oc, od, kV, doc, pm, an, cda, ct, osl, cc, rfl, lk, hcd, ⟨ccl, cdd, vs0, ccs, file, tf, lcode, hvs, hfile⟩, cl, cld, csl, lcell⟩ := Fx.ex
  refine ⟨len, fun A outer s H args us vs Q E hr e0 hb r hsp => ?_⟩
  have hl := len _ _ _ _ hsp
  have KX : K.In s.heap := e0.mod.kin.keeps fun b o e => (e0.bs b o e).1
  have lim : s.heap.NoLimit := e0.mod.nolimit.keeps fun b o e => (e0.bs b o e).1
  have C0 : CellsAt (nfX qual st cc cda).cl ["__class__"] [some (V.ref C)] s.heap H := by
    have hcell : s.heap.IsCell cc (some (.ref C)) := ⟨_, KX _ _ lcell, rfl⟩
    have one : ∀ {y : Str} {c : Addr}, (nfX qual st cc cda).cl.lookup y = some c → y = "__class__" ∧ c = cc := fun {y c} h => by
      have h : List.lookup y [(("__class__" : Str), cc)] = some c := h
      by_cases e : y = "__class__"
      · subst e
        have : List.lookup ("__class__" : Str) [(("__class__" : Str), cc)] = some cc := by simp [List.lookup]
        rw [this] at h
        cases h
        exact ⟨rfl, rfl⟩
      · have eb : (y == ("__class__" : Str)) = false := by simpa using e
        simp [List.lookup, eb] at h
    refine ⟨rfl, fun y c h => ?_, fun x y c h h' => (one h).1.trans (one h').1.symm, fun i y hi => ?_⟩
    · rw [(one h).2]
      exact ⟨(e0.bs _ _ (e0.mod.kin _ _ lcell)).2, _, hcell⟩
    · cases i with
      | zero =>
        have e : y = "__class__" := by simpa using hi.symm
        subst e
        refine ⟨cc, by simp [List.lookup], fun v hv => ?_⟩
        have ev : V.ref C = v := by simpa using hv
        subst ev
        exact ⟨_, rfl, hcell⟩
      | succ i => simp at hi
  refine codeAny_call_function hr.depth (KX _ _ lk) rfl S.co S.gen rfl (PySem.W.codeRec_of KX hcd) (hb _ _ _ _ ?_)
  refine wpAny_newFunctionEnv S.nocell (fun ⟨n, _⟩ hy => S.par n (List.of_mem_zip hy).1) (fun h₁ hns hsb => ⟨lim.fresh _ hsb, ?_⟩) S.kind
  show codeAny _ _ (.func (defBody st) (envF (nfX qual st cc cda) f s.heap.objs.size)) _ _
  refine ks_codeAny_funcAt ?_
  have kp : ∀ b o, s.heap.get? b = some o → h₁.get? b = some o := fun b o e => hsb.extBut b o (Nat.ne_of_lt (Heap.lt_size e)) (Heap.get?_push_of_some _ e)
  obtain ⟨a, te, t, hva, hpe, hps, hea, hq⟩ := hbody cc cda A outer s H vs Q E (hr.deeper _) hsp
  have I : Inv (ncx CX0 P w K mg base N (nfX qual st cc cda) f A outer s H E) [] (startF N vs [some (.ref C)]) H { s with heap := h₁, toks := s.toks + (ps.zip us).length } := inv_startN S hr.hd e0 hl r C0 hns kp
  have hfrk : (defScope st).names.lookup ("__class__" : Str) = some .free := S.frk _ (by simp)
  have hself : (ps.zip us).reverse.lookup ar.arg = some (.ref a) := by
    cases ps with
    | nil => simp at har
    | cons p0' ps' =>
      cases us with
      | nil =>
        have := r.length
        rw [hl] at this
        simp at this
      | cons u0 us' =>
        have e1 : p0' = ar.arg := by simpa using har
        subst e1
        cases r with
        | @cons v0 _ vs' _ r1 r2 =>
          have e2 : v0 = V.ref a := by simpa using hva
          subst e2
          obtain rfl : u0 = Value.ref a := r1
          have nd : (ar.arg :: ps').Nodup := by
            have q := S.nd.sublist (List.take_sublist ((ar.arg :: ps').length + (["__class__"] : List Str).length) N)
            rw [S.pre] at q
            exact (List.nodup_append.mp q).1
          exact NdefX.zip_look (i := 0) nd rfl rfl
  have hloc : (defScope st).names.lookup ar.arg = some .local := S.par _ (by
    cases ps with
    | nil => simp at har
    | cons p0' ps' =>
      have e1 : p0' = ar.arg := by simpa using har
      subst e1
      exact List.mem_cons_self)
  rw [hbd]
  have hint : interactive (envF (nfX qual st cc cda) f s.heap.objs.size) = false := by
    unfold interactive
    rw [show (envF (nfX qual st cc cda) f s.heap.objs.size).scope.kind = .function from S.kind]
    rfl
  refine ks_wpAt_execs_cons (ks_wpAt_Expr_any ?_ (hi := hint) (hs := hsw _))
  obtain ⟨pl, hpl0⟩ := hev (envF (nfX qual st cc cda) f s.heap.objs.size)
  refine ks_wpAt_MethodCall (pl := pl) ?_ hpl0
  refine ks_wpAt_super_base (env := envF (nfX qual st cc cda) f s.heap.objs.size) hks hfrk (by decide) rfl (kp _ _ (KX _ _ lk)) rfl hp rfl (kp _ _ (KX _ _ lcode)) rfl hvs (by rw [hP]; exact hfile) (by rw [hP]; exact Fx.top) ?_
  obtain ⟨mb, hb1, hb2⟩ := I.mod.blt
  refine ks_loadName_global (env := envF (nfX qual st cc cda) f s.heap.objs.size) S.kind hks (Calls.loadGlobal_builtin (env := envF (nfX qual st cc cda) f s.heap.objs.size) (mg := mg) (mb := mb) (v := .type "super") (I.mod.glob.keeps I.bk) Fx.sup (hb1.keeps I.bk) ((hb2 _ (by decide)).trans (by decide +kernel)) ⟨rfl, ?_⟩)
  refine wpAny_loadName_free (env := envF (nfX qual st cc cda) f s.heap.objs.size) (v := .ref C) S.kind hfrk (c := cc) (by simp [List.lookup]) ⟨_, kp _ _ (KX _ _ lcell), rfl⟩ ?_
  refine wpAny_loadName_local (env := envF (nfX qual st cc cda) f s.heap.objs.size) S.kind hloc hns hself ?_
  obtain ⟨nm, q, Nn, bs, bm, sn, sub, ab, col, dd, k0, k1, k2, k3, k5, hC, hbm⟩ := Fx.T.cls
  obtain ⟨t1, ho⟩ := exo_at I.hok hea
  have KX1 : K.In h₁ := KX.keeps kp
  refine ks_wpAny_isType_cls (KX1 _ _ hC) rfl ⟨rfl, ?_⟩
  refine ks_wpAny_call_super (KX1 _ _ hC) rfl ho rfl (fun c z => by cases z) (looks_mroIn KX1 Fx.sub) (fun h2 hso k2 => ?_)
  have I2 := I.kept (t' := s.toks + (ps.zip us).length) k2
  have KX2 : K.In h2 := KX1.keeps k2
  have IA : InstAt h2 a { cls := .ref C, dict := none, data := .fields #[.ref t1, .none, .none, .none, .bool false, .none] } C none := ⟨k2 _ _ ho, rfl, rfl, trivial⟩
  have hI : Looks (model P w) h2 (isInstance (.ref a) (.type "ValueError")) true := IA.type.andThen (looks_subIn KX2 Fx.ve)
  have hcl : clsIn K C = some { name := nm, bases := bs, mro := .ref C :: bm, ns := Nn, qualname := q, hasDict := true, slotNames := sn, subclasses := sub, abstract := ab, collection := col, hasDel := false } := by unfold clsIn; rw [hC] <;> rfl
  have hnx := Fx.nxt
  unfold ks_superIn at hnx
  rw [hcl] at hnx
  refine kxs_getMethod kxs_ValueError hso (looks_opaque KX2 Fx.op) (l₀ := .ref C :: bm) (fun A Q E s k q => wpAny_bind ((looks_clsIn KX2 hcl) A _ E s k (wpAny_pure q))) rfl KX2 hnx hI (ks_ne KX2 IA hcl) (by decide) ?_
  have k3 : ∀ b o, h2.get? b = some o → (h2.push (kxs_mw "ValueError.__init__" a)).get? b = some o := fun b o e => Heap.get?_push_of_some _ e
  have hmw : (h2.push (kxs_mw "ValueError.__init__" a)).get? h2.objs.size = some (kxs_mw "ValueError.__init__" a) := Heap.get?_push_size _ rfl
  have I3 : Inv (ncx CX0 P w K mg base N (nfX qual st cc cda) f A outer s H E) [] (startF N vs [some (.ref C)]) H ⟨h2.push (kxs_mw "ValueError.__init__" a), s.gens, s.drawn, s.toks + (ps.zip us).length + 1, s.os⟩ := I2.kept k3
  have uf : H h2.objs.size = none := I2.hok.fresh (Nat.le_refl _)
  have I4 : Inv (ncx CX0 P w K mg base N (nfX qual st cc cda) f A outer s H E) [(h2.objs.size, kxs_mw "ValueError.__init__" a)] (startF N vs [some (.ref C)]) H ⟨h2.push (kxs_mw "ValueError.__init__" a), s.gens, s.drawn, s.toks + (ps.zip us).length + 1, s.os⟩ := I3.pins_of fun p hp => by
    rw [List.mem_singleton.mp hp]
    exact ⟨hmw, uf, fun z => by
      have := I2.lt
      rw [show h2.objs.size = (ncx CX0 P w K mg base N (nfX qual st cc cda) f A outer s H E).env.locals from z] at this
      exact absurd this (Nat.lt_irrefl _), I2.nofs (Nat.le_refl _), fun v z => by cases z⟩
  refine kxs_callWith (i := "ValueError.__init__") (x := a) (by rw [hst]; show (false || (backTo p3 (starEach es _)).any (·.1)) = false; rw [hpl]; rfl) ?_
  rw [hst]
  refine Calls.evalArgs_plain ?_
  have hrun := hpe.run p3 [(h2.objs.size, kxs_mw "ValueError.__init__" a)] _ _ H _ I4 hq
  rw [show starEach (e :: es) (ncx CX0 P w K mg base N (nfX qual st cc cda) f A outer s H E).env = _ from hst _] at hrun
  refine wpAny_mono hrun (fun us1 s1 hh => ?_) fun _ _ z => z
  obtain ⟨vs1, H1, J, r1, hl1, ea1, hq1⟩ := hh
  have hu1 : s1.heap.get? h2.objs.size = some (kxs_mw "ValueError.__init__" a) := (J.pin (h2.objs.size, kxs_mw "ValueError.__init__" a) (List.mem_append_right _ List.mem_cons_self)).1
  refine ⟨hu1, ?_⟩
  have hlu : us1.length ≤ sizeLine := by
    rw [← r1.length, sizeLine_eq]
    omega
  refine winit_ok (X := ncx CX0 P w K mg base N (nfX qual st cc cda) f A outer s H E) Fx.T J ea1 hu1 hlu fun s2 J2 => ?_
  refine wpAt_of_wpAny ?_
  refine wpAny_mono (hps.run _ _ _ H1 _ J2 hq1) (fun fl s' hs => ?_) fun e s' hs => hs
  have fin : ∀ {σ' : L2.St} {H' : Hp} {v : V} {u : Value}, Inv (ncx CX0 P w K mg base N (nfX qual st cc cda) f A outer s H E) [(h2.objs.size, kxs_mw "ValueError.__init__" a)] σ' H' s' → L2.RelV v u → Q v H' → L2.CE outer P w H s Q u s' :=
    fun {σ' H' v u} J rv q => ⟨v, H', J.os, J.bare, J.base, J.hok, rv, q⟩
  cases fl with
  | ret u =>
    obtain ⟨v, σ', H', J, rv, q⟩ := hs
    exact fin J rv q
  | next =>
    obtain ⟨σ', H', J, q⟩ := hs
    exact fin (v := V.non) (u := Value.none) J rfl q
  | brk =>
    obtain ⟨_, _, _, q⟩ := hs
    exact False.elim q
  | cont =>
    obtain ⟨_, _, _, q⟩ := hs
    exact False.elim q
end
end Sk


set_option Elab.async false
set_option linter.all false
set_option maxRecDepth 100000
set_option maxHeartbeats 4100000
/-! Sk22: raise, defs that may raise, try. -/
namespace Sk
open PySem L2 Evl
/-! ### messages of texts and ints -/
def MsgOk (v : V) : Prop := (∃ y : Str, v = .str y ∧ (reprText y).length ≤ 100000) ∨ ∃ i : Int, v = .int i ∧ i.natAbs.log2 < 1900
theorem msg_int {i : Int} {k : Nat} (h : Bd k i) (hk : k ≤ 1900) : MsgOk (.int i) := .inr ⟨i, rfl, by
  by_cases z : i.natAbs = 0
  · rw [z]
    decide
  · exact (Nat.log2_lt z).mpr (Nat.lt_of_lt_of_le h.lt (Nat.pow_le_pow_right (by decide) hk))⟩
def pTE : Str ⊕ Nat → TE
  | .inl c => tC (.str c)
  | .inr i => tFmtR (tVar i)
theorem tjs_ok {σ : St} {H : Hp} : ∀ (ps : List (Str ⊕ Nat)) (acc : Str) {Q : Str → Hp → Prop}, (∀ p ∈ ps, match p with | .inl c => c.length ≤ 1000 | .inr i => ∃ v, σ[i]? = some (some v) ∧ MsgOk v) → acc.length + 100001 * ps.length ≤ 10000000 → (∀ out, Q out H) → tJs (ps.map pTE) acc σ H Q
  | [], acc, Q, _, _, h => h acc
  | p :: ps, acc, Q, hp, hl, h => by
    have hr := fun q hq => hp q (List.mem_cons_of_mem _ hq)
    have h0 := hp p List.mem_cons_self
    have sz : 10000000 ≤ sizeLine := by decide
    rw [List.length_cons] at hl
    have step : ∀ y : Str, y.length ≤ 100000 → ∃ y', V.str y = .str y' ∧ (acc ++ y').length ≤ sizeLine ∧ tJs (ps.map pTE) (acc ++ y') σ H Q := fun y hy => by
      refine ⟨y, rfl, ?_, tjs_ok ps (acc ++ y) hr ?_ h⟩
      · rw [Str.length_append]
        omega
      · rw [Str.length_append]
        omega
    cases p with
    | inl c => exact step c (Nat.le_trans h0 (by decide))
    | inr i =>
      obtain ⟨v, hv, ⟨y, ev, hy⟩ | ⟨j, ev, hj⟩⟩ := h0
      · exact ⟨v, hv, .inl ⟨y, ev, by omega, step _ hy⟩⟩
      · refine ⟨v, hv, .inr ⟨j, ev, by omega, step _ ?_⟩⟩
        exact Nat.le_trans (PyProof.Rows.int_text_len_1921 (by omega)) (by decide)
/-- the promise of the __init__ of an own exception with the fields fs -/
def spXI (C : Addr) (fs : List Str) : Sp := fun vs H Q _ => ∃ a ws, vs = .ref a :: ws ∧ ws.length = fs.length ∧ H a = some (exo a C none) ∧ (∀ w ∈ ws, MsgOk w) ∧
  ∀ d, H d = none → d ≠ a → Q .non (upd (upd H d (exd d (fs.zip ws).reverse)) a (exo a C (some d)))
theorem upd_comm {H : Hp} {a b : Addr} {o u : HO} (h : a ≠ b) : upd (upd H a o) b u = upd (upd H b u) a o := by
  funext c
  by_cases ha : c = a
  · subst ha
    rw [upd_ne h, upd_same, upd_same]
  · by_cases hb : c = b
    · subst hb
      rw [upd_same, upd_ne ha, upd_same]
    · rw [upd_ne hb, upd_ne ha, upd_ne ha, upd_ne hb]
theorem upd_twice {H : Hp} {a : Addr} {o u : HO} : upd (upd H a o) a u = upd H a u := by
  funext c
  by_cases ha : c = a
  · subst ha
    rw [upd_same, upd_same]
  · rw [upd_ne ha, upd_ne ha, upd_ne ha]
/-- one more field is stored -/
theorem ost_more {H H2 : Hp} {a d : Addr} {C : Addr} {fs : List (Str × V)} {f : Str} {y : V} (hne : d ≠ a) (e : H2 = upd (upd H d (exd d fs)) a (exo a C (some d))) : upd H2 d (exd d ((f, y) :: fs)) = upd (upd H d (exd d ((f, y) :: fs))) a (exo a C (some d)) := by
  rw [e, upd_comm (Ne.symm hne), upd_twice]
/-! ### an own exception's data -/
structure Xd (pm : Module) (K : Fg) (mg : Str → Option Value) (n : Str) (C : Addr) (qual : Str) (st : Stmt) (fs : List Str) where
  f : Addr
  fd : FuncData
  I : XIni pm K mg C qual st f fd
  m : mg n = some (.ref C)
  iC : PySem.W.findIn K (.ref C) "__init__" = some (some (.ref f))
  tI : PySem.W.typeIn K (.ref f) = some (.type "function")
  b : Binds K fd ("self" :: fs) []
  na : ∀ x ∈ fs, PySem.W.findIn K (.ref C) x = some none
  xm : PySem.W.exmOne K (.ref C) (.ref C) = some true
  xf : XfC K C
/-- what is told by typed things without the heap -/
class Raw {α : Type} (g : RpF α) (f : outParam (α → List V)) : Prop where
  raw : ∀ {K : Fg} {G : Hp} {vs : List V} {x : α}, g.rep K G vs x → vs = f x
class Raw1 {α : Type} (r : Rp α) (f : outParam (α → V)) : Prop where
  raw : ∀ {K : Fg} {G : Hp} {v : V} {x : α}, r.rep K G v x → v = f x
instance raw1S : Raw1 rStr V.str := ⟨fun h => h⟩
instance raw1I : Raw1 rInt V.int := ⟨fun h => h⟩
instance rawOne {α : Type} {r : Rp α} {f : α → V} [h : Raw1 r f] : Raw (fOne r) (fun x => [f x]) := ⟨fun ⟨v, e, q⟩ => by rw [e, h.raw q]⟩
instance rawCons {α β : Type} {r : Rp α} {f : α → V} {g : RpF β} {f' : β → List V} [h : Raw1 r f] [h' : Raw g f'] : Raw (fCons r g) (fun x => f x.1 :: f' x.2) := ⟨fun ⟨v, ws, e, q, q'⟩ => by rw [e, h.raw q, h'.raw q']⟩
/-- an exception leaves: of the class at C, with these fields -/
def XT (K : Fg) (B : Bs) (Γ : Gm) (O : List Own) (C : Addr) (fl : List (Str × V)) (W : WX) : Prop := ∀ d σ G H, Ws K B Γ O σ G H → G d = some (.xd fl) → W (.ref C) (some d) σ H
theorem xt_drop {K : Fg} {B : Bs} {Γ : Gm} {O : List Own} {C : Addr} {fl : List (Str × V)} {W : WX} (h : XT K B Γ [] C fl W) : XT K B Γ O C fl W := fun d σ G H Ww => h d σ G H (Ww.perm (fun _ z => absurd z (by simp)) fun _ => List.nodup_nil)
section
variable {P : Program} {w : World} {K : Fg} {mg : Str → Option Value} {base : Heap} {k : Nat} {B : Bs} {Γ : Gm} {O : List Own}
/-- raise C(e, ..) -/
theorem s_raise {X : Cx} [fam : Fam (Us X) P w K mg base k] {W : WX} {j : Nat} {n qual : Str} {C : Addr} {st : Stmt} {fs : List Str} {α : Type} {g : RpF α} {f : α → List V} [hr : Raw g f] {e : Expr} {es : List Expr} {p pos pos' : Pos} {rest : List Stmt} {D : Ends}
    {pm : Module} (tk : Takes X W) (Dx : Xd pm K mg n C qual st fs) (G1 : FnOk P w K mg base CX0 j Dx.f Dx.fd ("self" :: fs) (spXI C fs))
    (h : DA (Us X) K B Γ O (e :: es) g fun z O1 => ((f z).length = fs.length ∧ fs.length ≤ 100) ∧ (∀ v ∈ f z, MsgOk v) ∧ XT K B Γ O1 C (fs.zip (f z)).reverse W) (hj : j + 1 ≤ k := by decide) (hdb : (n == ("__debug__" : Str)) = false := by decide) (hg : Gl X n := by rfl)
    (he : starEach (e :: es) X.env = (false, eval e X.env) :: starEach es X.env := by rfl) (hpl : (backTo pos (starEach es X.env)).any (·.1) = false := by rfl) :
    DS X K B Γ O (.Raise (some (.Call (.Name n p) (e :: es) [] pos)) none pos' :: rest) D := by
  intro σ G H Ww
  have h1 : X.prog = P := fam.pr ()
  have h2 : X.w = w := fam.wd ()
  have h3 : X.K = K := fam.ka ()
  have h4 : X.mg = mg := fam.mg ()
  have h5 : X.base = base := fam.bs ()
  have G2 : FnOk X.prog X.w X.K X.mg X.base CX0 j Dx.f Dx.fd ("self" :: fs) (spXI C fs) := by
    rw [h1, h2, h3, h4, h5]
    exact G1
  have hK : X.K = K := h3
  refine WSs.cons (ps_raise (fam.cm ()) tk (pmk_oex (CX := CX0) (ta := WA (Us X) (e :: es)) (by rw [hK]; exact Dx.I.T) (by rw [hK]; exact Dx.iC) (by rw [hK]; exact Dx.tI) G2 ((fam.rm ()).mono hj) (by rw [hK]; exact Dx.b) .nil pass0 hg
    (by rw [show X.mg = mg from h4]; exact Dx.m) (WA.pa (F := Us X) ()) hdb he hpl)) ?_
  refine h σ G H Ww _ fun z O' vs G' H' ⟨⟨hl, hl2⟩, hm, hx⟩ W' _ r => ?_
  have ev := hr.raw r
  subst ev
  refine ⟨by omega, fun a ha => ⟨a, f z, by rw [List.append_nil], hl, upd_same, hm, fun d hd hne => ?_⟩⟩
  have hd1 : H' d = none := by
    rw [upd_ne hne] at hd
    exact hd
  refine ⟨rfl, d, _, upd_same, by rw [upd_ne hne, upd_same], hd1, ?_⟩
  have e2 : upd (del (upd (upd (upd H' a (exo a C none)) d (exd d (fs.zip (f z)).reverse)) a (exo a C (some d))) a) d (.xd (fs.zip (f z)).reverse) = upd H' d (.xd (fs.zip (f z)).reverse) := by
    funext c
    by_cases hc : c = d
    · subst hc
      rw [upd_same, upd_same]
    · rw [upd_ne hc, upd_ne hc]
      by_cases hca : c = a
      · subst hca
        rw [del_same, ha]
      · rw [del_ne hca, upd_ne hca, upd_ne hc, upd_ne hca]
  rw [e2]
  exact hx d σ (upd G' d (.xd (fs.zip (f z)).reverse)) _ (W'.step (Stp.new W'.sub hd1)) upd_same
/-! ### promises with exceptions -/
section
variable {α β : Type}
def spX (K : Fg) (T : List Addr) (ra : RpF α) (pre : α → Prop) (own : α → List Own) (r : Rp β) (post : α → β → List Own → Prop) (xpost : α → Addr → List (Str × V) → List Own → Prop) : Sp := fun vs H Q E => ∃ G x, Ex G H ∧ (∀ P ∈ T, Tb H P ∧ G P = none) ∧ ra.rep K G vs x ∧ pre x ∧
  (∀ w ∈ own x, (∃ o, H w.a = some o ∧ w.r.rep K G o w.x) ∧ G w.a = none ∧ w.a ∉ T) ∧ ((own x).map (·.a)).Nodup ∧
  (∀ v y O' G' H', Stp T ((own x).map (·.a)) G H G' H' → (∀ w ∈ O', (∃ o, H' w.a = some o ∧ w.r.rep K G' o w.x) ∧ G' w.a = none ∧ w.a ∉ T ∧ (H w.a = none ∨ w.a ∈ (own x).map (·.a))) → (O'.map (·.a)).Nodup → r.rep K G' v y → post x y O' → Q v H') ∧
  ∀ C fl d O' G' H', Stp T ((own x).map (·.a)) G H G' H' → (∀ w ∈ O', (∃ o, H' w.a = some o ∧ w.r.rep K G' o w.x) ∧ G' w.a = none ∧ w.a ∉ T ∧ (H w.a = none ∨ w.a ∈ (own x).map (·.a))) → (O'.map (·.a)).Nodup → G' d = some (.xd fl) → xpost x C fl O' → E (.ref C) (some d) H'
variable {ra : RpF α} {rb : Rp β} {pre : α → Prop} {own : α → List Own} {post : α → β → List Own → Prop} {xpost : α → Addr → List (Str × V) → List Own → Prop} {T : List Addr}
theorem Ws.after {x : List Own} {R O' : List Own} {σ : St} {G H G' H' : Hp} (W : Ws K B Γ (x ++ R) σ G H) (hT : ∀ P ∈ T, P ∈ B.T) (s : Stp T (x.map (·.a)) G H G' H')
    (hO' : ∀ w ∈ O', (∃ o, H' w.a = some o ∧ w.r.rep K G' o w.x) ∧ G' w.a = none ∧ w.a ∉ T ∧ (H w.a = none ∨ w.a ∈ x.map (·.a))) (hn' : (O'.map (·.a)).Nodup) : Ws K B Γ (O' ++ R) σ G' H' := by
  have nd' := W.nd
  rw [List.map_append] at nd'
  have hM : ∀ c ∈ x.map (·.a), (c ∈ B.M ∨ B.H0 c = none) ∧ c ∉ B.T := fun c hc => by
    obtain ⟨w, hw, e⟩ := List.mem_map.mp hc
    obtain ⟨_, _, h3, h4⟩ := W.own w (List.mem_append_left _ hw)
    rw [← e]
    exact ⟨h4.symm, h3⟩
  have s2 := s.tsub hT fun P hP => (hM P hP).2
  refine ⟨W.st.trans s2 fun c hc => (hM c hc).1, fun P hP => ⟨s2.tab P hP (W.tab P hP).1, ?_⟩, fun g hg => (W.bs g hg).trans s.g, W.env.mono s.g, fun w hw => ?_, ?_, W.mh⟩
  · cases e : G' P with
    | none => rfl
    | some o =>
      have z := s.fr P (W.tab P hP).2 (by rw [e]; simp)
      obtain ⟨⟨ps, h1, _⟩, _⟩ := W.tab P hP
      rw [h1] at z
      cases z
  · rcases List.mem_append.mp hw with z | z
    · obtain ⟨h1, h2, h3, h4⟩ := hO' w z
      refine ⟨h1, h2, fun hw' => ?_, ?_⟩
      · by_cases hT' : w.a ∈ T
        · exact h3 hT'
        · rcases h4 with h4 | h4
          · obtain ⟨⟨ps, g1, _⟩, _⟩ := W.tab _ hw'
            rw [g1] at h4
            cases h4
          · exact (hM _ h4).2 hw'
      · rcases h4 with h4 | h4
        · exact .inl (W.free h4)
        · exact (hM _ h4).1.symm
    · obtain ⟨⟨o, h1, h2⟩, h3, h4, h5⟩ := W.own w (List.mem_append_right _ z)
      have nM : w.a ∉ x.map (·.a) := fun c => (List.nodup_append.mp nd').2.2 _ c _ (List.mem_map.mpr ⟨w, z, rfl⟩) rfl
      refine ⟨⟨o, s2.h _ _ h1 h4 nM, w.r.mono s.g h2⟩, ?_, h4, h5⟩
      cases e : G' w.a with
      | none => rfl
      | some u =>
        have z := s.fr _ h3 (by rw [e]; simp)
        rw [h1] at z
        cases z
  · rw [List.map_append]
    refine List.nodup_append.mpr ⟨hn', (List.nodup_append.mp nd').2.1, fun c hc d hd e => ?_⟩
    subst e
    obtain ⟨w, hw, ew⟩ := List.mem_map.mp hc
    obtain ⟨w2, hw2, ew2⟩ := List.mem_map.mp hd
    obtain ⟨_, _, _, h4⟩ := hO' w hw
    obtain ⟨⟨o, h1, _⟩, _⟩ := W.own w2 (List.mem_append_right _ hw2)
    rw [ew2, ← ew] at h1
    rcases h4 with h4 | h4
    · rw [h1] at h4
      cases h4
    · rw [ew] at h4
      exact (List.nodup_append.mp nd').2.2 c h4 c hd rfl
/-- a promise is asked, what it lets out goes to W -/
def SWX (K : Fg) (B : Bs) (Γ : Gm) (O : List Own) (W : WX) (sp : Sp) (dvs : List V) {α γ : Type} (ra : RpF α) (x : α) (rc : Rp γ) (Φ : γ → List Own → Prop) : Prop :=
  ∀ σ G H vs, Ws K B Γ O σ G H → ra.rep K G vs x → ∀ Q : VK, (∀ z O' u G' H', Φ z O' → Ws K B Γ O' σ G' H' → Ex G G' → rc.rep K G' u z → Q u H') → sp (vs ++ dvs) H Q fun cls d H' => W cls d σ H'
theorem sw_x {W : WX} {x : α} {Φ : β → List Own → Prop} (R : List Own) (hp : pre x) (hO : ∀ w ∈ own x ++ R, w ∈ O) (hn : (O.map (·.a)).Nodup → ((own x ++ R).map (·.a)).Nodup) (h : ∀ y O', post x y O' → Φ y (O' ++ R))
    (hx : ∀ C fl O', xpost x C fl O' → XT K B Γ (O' ++ R) C fl W) (hT : ∀ P ∈ T, P ∈ B.T := by first | exact fun _ h => h | (intro _ h; cases h)) : SWX K B Γ O W (spX K T ra pre own rb post xpost) [] ra x rb Φ := by
  intro σ G H vs Ww rv Q q
  have W' : Ws K B Γ (own x ++ R) σ G H := Ww.perm hO hn
  have nd' := W'.nd
  rw [List.map_append] at nd'
  refine ⟨G, x, Ww.sub, fun P hP => Ww.tab P (hT P hP), by rw [List.append_nil]; exact rv, hp, fun w hw => ?_, (List.nodup_append.mp nd').1, fun v y O' G' H' s hO' hn' r hpost => ?_, fun C fl d O' G' H' s hO' hn' e hpost => ?_⟩
  · obtain ⟨h1, h2, h3, _⟩ := W'.own w (List.mem_append_left _ hw)
    exact ⟨h1, h2, fun z => h3 (hT _ z)⟩
  · exact q y (O' ++ R) v G' H' (h y O' hpost) (W'.after hT s hO' hn') s.g r
  · exact hx C fl O' hpost d σ G' H' (W'.after hT s hO' hn') e
abbrev sp0X (K : Fg) (T : List Addr) (ra : RpF α) (pre : α → Prop) (r : Rp β) (post : α → β → Prop) (xpost : α → Addr → List (Str × V) → Prop) : Sp := spX K T ra pre (fun _ => []) r (fun x y O' => O' = [] ∧ post x y) fun x C fl O' => O' = [] ∧ xpost x C fl
theorem sw_0X {W : WX} {x : α} {post : α → β → Prop} {xpost : α → Addr → List (Str × V) → Prop} {Φ : β → List Own → Prop} (hp : pre x) (h : ∀ y, post x y → Φ y O) (hx : ∀ C fl, xpost x C fl → XT K B Γ O C fl W) (hT : ∀ P ∈ T, P ∈ B.T := by first | exact fun _ h => h | (intro _ h; cases h)) :
    SWX K B Γ O W (sp0X K T ra pre rb post xpost) [] ra x rb Φ :=
  sw_x O hp (fun w hw => hw) (fun z => z) (fun y O' ⟨e, p⟩ => by subst e; exact h y p) (fun C fl O' ⟨e, p⟩ => by subst e; exact hx C fl p) hT
/-- the context of a def's body that may raise -/
abbrev XfE (P : Program) (w : World) (K : Fg) (mg : Str → Option Value) (base : Heap) (N : List Str) (qual : Str) (st : Stmt) (f : Addr) (cdv : Value) (A : Around) (outer : List Env) (s : Shared) (H : Hp) (E : XK) : Cx :=
  cxOf (L2.CX P w) P w K mg base N qual (defScope st) f cdv A outer s H E
/-- THE RULE: a def that may raise keeps its promise -/
theorem fn_x {x qual : Str} {st : Stmt} {f : Addr} {fd : FuncData} {N ps : List Str} {m : Nat} {g : α → Gm} [hl : Len ra m] [ha : Args ra g]
    (F : Fun K x qual st f fd) (S : FnScope N ps (defScope st)) (T : List Addr)
    (h : ∀ (cdv : Value) (A : Around) (outer : List Env) (s : Shared) (G H : Hp) (E : XK) (x : α) (Q : VK), Fam (Us (XfE P w K mg base N qual st f cdv A outer s H E)) P w K mg base k → pre x →
      Takes (XfE P w K mg base N qual st f cdv A outer s H E) (fun cls d _ H' => E cls d H') →
      PassesOwn (model (XfE P w K mg base N qual st f cdv A outer s H E).prog (XfE P w K mg base N qual st f cdv A outer s H E).w) (XfE P w K mg base N qual st f cdv A outer s H E).A (XfE P w K mg base N qual st f cdv A outer s H E).env (XfE P w K mg base N qual st f cdv A outer s H E).xe →
      (∀ {Γ : Gm} {O' : List Own} {y : β}, post x y O' → RT K ⟨T, (own x).map (·.a), G, H, []⟩ Γ O' rb y { nx := fun _ H' => Q .non H', rt := Q }) →
      (∀ {Γ : Gm} {O' : List Own} {C : Addr} {fl : List (Str × V)}, xpost x C fl O' → XT K ⟨T, (own x).map (·.a), G, H, []⟩ Γ O' C fl (fun cls d _ H' => E cls d H')) →
      DS (XfE P w K mg base N qual st f cdv A outer s H E) K ⟨T, (own x).map (·.a), G, H, []⟩ (g x ++ List.replicate (N.length - m) none) (own x) (defBody st) { nx := fun _ H' => Q .non H', rt := Q }) (hm : m = ps.length := by rfl) :
    FnOk P w K mg base (L2.CX P w) (k + 1) f fd ps (spX K T ra pre own rb post xpost) := by
  refine F.okX S (fun vs H Q E ⟨G, x, _, _, r, _⟩ => by rw [hl.len r]; exact hm) fun cdv A outer s H vs Q E hr ⟨G, x, sub, tab, r, hp, ho, hn, q, qx⟩ => ?_
  have fam : Fam (Us (XfE P w K mg base N qual st f cdv A outer s H E)) P w K mg base k := ⟨fun _ => rfl, fun _ => rfl, fun _ => rfl, fun _ => rfl, fun _ => rfl, fun _ => hr, fun _ => rfl, fun _ => S.nd⟩
  have tk : Takes (XfE P w K mg base N qual st f cdv A outer s H E) (fun cls d _ H' => E cls d H') := takes_of rfl rfl rfl rfl
  have hx := h cdv A outer s G H E x Q fam hp tk (passes_of rfl) (fun {Γ O' y} hpost v σ G' H' W rv => q v y O' G' H' W.st (fun w hw => let ⟨a, b, c, d⟩ := W.own w hw; ⟨a, b, c, d⟩) W.nd rv hpost)
    (fun {Γ O' C fl} hpost d σ G' H' W rv => qx C fl d O' G' H' W.st (fun w hw => let ⟨a, b, c, d⟩ := W.own w hw; ⟨a, b, c, d⟩) W.nd rv hpost)
  refine ⟨_, WSs.pss, hx (L2.start N vs) G H ⟨Stp.refl sub, tab, fun _ z => absurd z (by simp), ?_, fun w hw => ?_, hn, fun c hc => ?_⟩⟩
  · have e := ha.env (m := N.length - m) r
    unfold L2.start
    rw [hl.len r]
    exact e
  · obtain ⟨a, b, c⟩ := ho w hw
    exact ⟨a, b, c, .inr (List.mem_map.mpr ⟨w, hw, rfl⟩)⟩
  · obtain ⟨w, hw, e⟩ := List.mem_map.mp hc
    obtain ⟨⟨o, a, _⟩, _⟩ := ho w hw
    show H c ≠ none
    rw [← e, a]
    simp
end
/-- a call of a def that may raise -/
theorem d_callX {ι : Type} {F : ι → Cx} [fam : Fam F P w K mg base k] {W : WX} {j : Nat} {n : Str} {st : Stmt} {ps : List Str} {sp : Sp} {α γ : Type} {g : RpF α} {rc : Rp γ} {Φ : γ → List Own → Prop} {e : Expr} {es : List Expr} {p pos : Pos} (tk : ∀ i, Takes (F i) W) (D : Df K mg n st ps) (G : FnOk P w K mg base (L2.CX P w) j D.f D.fd ps sp)
    (h : DA F K B Γ O (e :: es) g fun x O1 => SWX K B Γ O1 W sp [] g x rc Φ) (hj : j ≤ k := by decide) (hdb : (n == ("__debug__" : Str)) = false := by decide) (hg : ∀ i, Gl (F i) n := by intro _; rfl)
    (he : ∀ i, starEach (e :: es) (F i).env = (false, eval e (F i).env) :: starEach es (F i).env := by intro _; rfl) (hpl : ∀ i, (backTo pos (starEach es (F i).env)).any (·.1) = false := by intro _; rfl) :
    DW F K B Γ O (.Call (.Name n p) (e :: es) [] pos) rc Φ := by
  intro σ G' H Ww Q q
  refine ⟨tCallS sp (fun σ cls d H' => W cls d σ H') (WA F (e :: es)), fun i => ?_, h σ G' H Ww _ fun x O1 vs G1 H1 kk W1 e1 r1 => by
    have := kk σ G1 H1 vs W1 r1 Q fun z O' u G2 H2 k2 W2 e2 r2 => q z O' u G2 H2 k2 W2 (e1.trans e2) r2
    rw [List.append_nil] at this
    exact this⟩
  have h1 := fam.pr i
  have h2 := fam.wd i
  have h3 := fam.ka i
  have h4 := fam.mg i
  have h5 := fam.bs i
  have G2 : FnOk (F i).prog (F i).w (F i).K (F i).mg (F i).base (L2.CX (F i).prog (F i).w) j D.f D.fd ps sp := by rw [h1, h2, h3, h4, h5]; exact G
  have m2 : (F i).mg n = some (.ref D.f) := by rw [h4]; exact D.m
  have k2 : PySem.W.keepIn (F i).K (.ref D.f) = true := by rw [h3]; exact D.F.kp
  have b2 : Binds (F i).K D.fd ps [] := by rw [h3]; exact D.b
  exact pe_callS G2 ((fam.rm i).mono hj) (hg i) m2 k2 b2 (fun σ => passAt (tk i) σ) (WA.pa i) (hdb := hdb) (he := he i) (hpl := hpl i)
/-! ### try -/
abbrev ιT (X : Cx) (W : WX) : Type := { i : List (Addr × Obj) × (Value → Shared → Prop) // Takes (X.tr i.1 i.2) W ∧ PassesOwn (model X.prog X.w) X.A X.env i.2 }
abbrev Ft (X : Cx) (W : WX) : ιT X W → Cx := fun i => X.tr i.1.1 i.1.2
instance famT {X : Cx} {W : WX} [fam : Fam (Us X) P w K mg base k] : Fam (Ft X W) P w K mg base k := ⟨fun _ => fam.pr (), fun _ => fam.wd (), fun _ => fam.ka (), fun _ => fam.mg (), fun _ => fam.bs (), fun _ => fam.rm (), fun _ => fam.cm (), fun _ => fam.nd ()⟩
theorem ft_tk {X : Cx} {W : WX} (i : ιT X W) : Takes (Ft X W i) W := i.2.1
abbrev wNo : WX := fun _ _ _ _ => False
/-- within try: return e; the clause without a name: return a truth -/
abbrev wTru (K : Fg) (c : Value) (b : Bool) (D : Ends) : WX := wOnly K c (fun _ _ _ => fun D _ H => D.rt (.bl b) H) wNo D
theorem xt_tru {C : Addr} {fl : List (Str × V)} {b : Bool} {D : Ends} (hm : PySem.W.exmOne K (.ref C) (.ref C) = some true) (h : RT K B Γ O rBool b D) : XT K B Γ O C fl (wTru K (.ref C) b D) :=
  fun d σ G H W _ => ⟨true, hm, fun _ _ _ => h (.bl b) σ G H W rfl, fun z => Bool.noConfusion z⟩
section
variable {X : Cx} {e : Expr} {n x : Str} {np p1 p2 p3 p4 p5 p6 : Pos} {c : Value} {b : Bool} {i0 : Nat} {α : Type} {ra : Rp α} {D : Ends} {rest : List Stmt}
theorem s_tryRetT [fam : Fam (Us X) P w K mg base k] (hs : X.stack = X.env :: X.outer) (hf : X.env.frame = some X.env.locals) (hc : Names X x c) (h : DW (Ft X (wTru K c b { D with nx := WSs X rest D })) K B Γ O e ra fun y O' => RT K B Γ O' ra y D) :
    DS X K B Γ O (.Try [.Return (some e) p1] [.ExceptHandler (some (.Name x np)) none [.Return (some (.Constant (.bool b) i0 p2)) p3] p4] [] [] p5 :: rest) D := by
  intro σ G H Ww
  have hK : X.K = K := fam.ka ()
  refine WSs.cons (ps_try_only (tb := fun W => fun D σ H => WE (Ft X W) e σ H D.rt) (ts := fun _ _ _ => fun D _ H => D.rt (.bl b) H) (Wout := wNo) hs hf hc (fun u s' ⟨_, _, _, _, _, _, _, _, _, _, _, _, _, _, _, _, z⟩ => z.elim)
    (fun W pn xe tk po => pss_one (ps_ret (te := WE (Ft X W) e) (WE.pe (F := Ft X W) ⟨(pn, xe), tk, po⟩))) (fun a oe cls d pn hz hff => pss_one (ps_ret pe_bl))) ?_
  rw [hK]
  exact h σ G H Ww _ fun y O' v G' H' kk W' _ r => kk v σ G' H' W' r
theorem s_trySetT [fam : Fam (Us X) P w K mg base k] (i : Nat) {f : Option Slot → Gm} [hg : SetG Γ i f] (hs : X.stack = X.env :: X.outer) (hf : X.env.frame = some X.env.locals) (hc : Names X x c)
    (h : DW (Ft X (wTru K c b { D with nx := WSs X rest D })) K B Γ O e ra fun y O' => DS X K B (f (some ⟨ra, y⟩)) O' rest D) (hi : X.N[i]? = some n := by rfl)
    (hx : Loc X.env.scope n := by first | exact Or.inl rfl | exact Or.inr rfl) (hsw : swapsWith e (some (.Name n p2)) p1.line X.env = pure false := by rfl) (hfn : X.fn n = true ∨ X.env.scope.names.lookup n = some .local := by first | exact .inr rfl | exact .inl rfl) :
    DS X K B Γ O (.Try [.Assign [.Name n p2] e p1] [.ExceptHandler (some (.Name x np)) none [.Return (some (.Constant (.bool b) i0 p3)) p6] p4] [] [] p5 :: rest) D := by
  intro σ G H Ww
  have hK : X.K = K := fam.ka ()
  refine WSs.cons (ps_try_only (tb := fun W => tAsg (WE (Ft X W) e) (gName i)) (ts := fun _ _ _ => fun D _ H => D.rt (.bl b) H) (Wout := wNo) hs hf hc (fun u s' ⟨_, _, _, _, _, _, _, _, _, _, _, _, _, _, _, _, z⟩ => z.elim)
    (fun W pn xe tk po => pss_one (ps_set (X := X.tr pn xe) (te := WE (Ft X W) e) (fam.nd ()) hi hx (WE.pe (F := Ft X W) ⟨(pn, xe), tk, po⟩) hsw hfn)) (fun a oe cls d pn hz hff => pss_one (ps_ret pe_bl))) ?_
  rw [hK]
  exact h σ G H Ww _ fun y O' v G' H' kk W' _ r => kk _ G' H' (by rw [hg.eq]; exact W'.set i r)
end
end
end Sk


set_option Elab.async false
set_option linter.all false
set_option maxRecDepth 100000
set_option maxHeartbeats 4100000
/-! Sk23: enumerate(xs), list(range(a, b)), the first two of a tuple. -/
namespace Sk
open PySem L2 Evl
def enm {α : Type} (xs : List α) : List (Int × α) := xs.zipIdx.map fun p => ((p.2 : Int), p.1)
theorem enm_len {α : Type} (xs : List α) : (enm xs).length = xs.length := by
  unfold enm
  rw [List.length_map, List.length_zipIdx]
theorem enm_get {α : Type} {xs : List α} {i : Nat} {z : Int × α} : (enm xs)[i]? = some z ↔ ∃ x, xs[i]? = some x ∧ z = ((i : Int), x) := by
  unfold enm
  rw [List.getElem?_map, List.getElem?_zipIdx]
  cases h : xs[i]? with
  | none => simp
  | some x =>
    simp only [Option.map_some, Option.some.injEq, Nat.zero_add]
    constructor
    · intro e
      exact ⟨x, rfl, e.symm⟩
    · rintro ⟨y, e1, e2⟩
      rw [e2, e1]
section
variable {ι : Type} {F : ι → Cx} {K : Fg} {B : Bs} {Γ : Gm} {O : List Own} {α β γ : Type} {ra : Rp α} {rb : Rp β} {e a b tg : Expr} {n : Str} {p p2 pos : Pos}
variable {P : Program} {w : World} {mg : Str → Option Value} {base : Heap} {k : Nat}
theorem Gives.enum {T : List Addr} {Gb : Hp} {c : Addr} {vs : List V} {xs : List α} (h : SqL K Gb c vs) (r : All2 (ra.rep K Gb) vs xs) : Gives K T Gb (Ite K c) (rTup (fCons rInt (fOne ra))) (enm xs) where
  go := fun j G H hj e1 e2 => by
    rw [enm_len] at hj
    have h1 : j < vs.length := by rw [r.length]; exact hj
    exact ⟨vs, vs[j], ex_l (e1.trans e2) h, List.getElem?_eq_getElem h1⟩
  stop := fun G H e1 e2 => by
    refine ⟨vs, ex_l (e1.trans e2) h, ?_⟩
    rw [enm_len, r.length]
    exact Nat.le_refl _
  yld := fun j G H v H' hj e1 e2 ⟨t, x, h1, h2, h3, h4⟩ => by
    subst h1 h3
    have hx := h4 vs (ex_l (e1.trans e2) h)
    obtain ⟨y, hy, rep⟩ := r.get hx
    have s : Stp T [] G H (upd G t (.tup [.int (j : Nat), x])) (upd H t (.tup [.int (j : Nat), x])) := Stp.new e2 h2
    exact ⟨((j : Int), y), _, enm_get.mpr ⟨y, hy, rfl⟩, s, t, _, rfl, SqT.of upd_same, _, [x], rfl, rfl, x, rfl, ra.mono (e1.trans s.g) rep⟩
theorem w_enum [fam : Fam F P w K mg base k] {elts : List Expr} {kk : Nat} {tpos : Pos} {Φ : List (Int × α) → List Own → Prop} (hm : mg "enumerate" = none) (h : DW F K B Γ O e (rLst ra) fun xs O1 => Φ (enm xs) O1) (hg : ∀ i, Gl (F i) "enumerate" := by intro _; rfl)
    (hs : ∀ i, starEach [e] (F i).env = [(false, eval e (F i).env)] := by intro _; rfl) : DI F K B Γ O (.Tuple elts kk tpos) (.Call (.Name "enumerate" p) [e] [] pos) (rTup (fCons rInt (fOne ra))) Φ := by
  intro σ G H W R q
  have hs2 : ∀ i, starEach [] (F i).env = [] := fun i => rfl
  refine ⟨iEnum K (tCons (WE F e) tNil), fun i => by rw [← fam.ka i]; exact pi_enum (hg i) (by rw [fam.mg i]; exact hm) (pa_cons (WE.pe i) pa_nil (by rw [hs i, hs2 i])) (hs i), ?_⟩
  exact h σ G H W _ fun xs O1 v G1 H1 h1 W1 e1 ⟨c, vs, r1, r2, r3⟩ => ⟨c, vs, by rw [r1], SqL.of (W1.sub _ _ r2), q _ _ O1 G1 H1 h1 (Gives.enum (SqL.of r2) r3) W1 e1⟩
theorem d_listRg2 [fam : Fam F P w K mg base k] {Φ : List Int → List Own → Prop} (hm : mg "list" = none) (hmr : mg "range" = none) (h : DW F K B Γ O a rInt fun i O1 => DW F K B Γ O1 b rInt fun j O2 => RgOk i j ∧ Φ (rgI i 1 (j - i).toNat) O2)
    (hg : ∀ i, Gl (F i) "list" := by intro _; rfl) (hgr : ∀ i, Gl (F i) "range" := by intro _; rfl) (hs : ∀ i, starEach [a, b] (F i).env = (false, eval a (F i).env) :: starEach [b] (F i).env := by intro _; rfl) (hs2 : ∀ i, starEach [b] (F i).env = (false, eval b (F i).env) :: starEach [] (F i).env := by intro _; rfl)
    (hpl : ∀ i, (backTo p2 (starEach [b] (F i).env)).any (·.1) = false := by intro _; rfl) (hs3 : ∀ i, starEach [.Call (.Name "range" p) [a, b] [] p2] (F i).env = (false, eval (.Call (.Name "range" p) [a, b] [] p2) (F i).env) :: starEach [] (F i).env := by intro _; rfl) {p3 : Pos} :
    DW F K B Γ O (.Call (.Name "list" p3) [.Call (.Name "range" p) [a, b] [] p2] [] pos) (rLst rInt) Φ := by
  intro σ G H W Q q
  refine ⟨tLstRg (tRg2 (WE F a) (WE F b)), fun i => pe_listRg (fam.cm i) (hg i) (by rw [fam.mg i]; exact hm) (prg_2 (hgr i) (by rw [fam.mg i]; exact hmr) (WE.pe i) (WE.pe i) (hs i) (hs2 i) (hpl i)) (hs3 i), ?_⟩
  refine h σ G H W _ fun i O1 v G1 H1 h1 W1 e1 r1 => ?_
  refine h1 σ G1 H1 W1 _ fun j O2 u G2 H2 ⟨hok, k2⟩ W2 e2 r2 => ?_
  refine ⟨i, j, r1, r2, hok, fun t ht => ?_⟩
  have s : Stp B.T [] G2 H2 (upd G2 t (.lst (rgV i j))) (upd H2 t (.lst (rgV i j))) := Stp.new W2.sub ht
  refine q _ O2 _ _ _ k2 (W2.step s) ((e1.trans e2).trans s.g) ⟨t, _, rfl, upd_same, ?_⟩
  have : rgV i j = (rgI i 1 (j - i).toNat).map V.int := by
    unfold rgV rgI
    rw [List.map_map]
    refine List.map_congr_left fun x _ => ?_
    show V.int (i + (x : Int)) = V.int (i + (x : Int) * 1)
    rw [Int.mul_one]
  rw [this]
  exact All2.of_int _
/-- the first two of a longer tuple -/
theorem sl_p2 {r1 : Rp α} {r2 : Rp β} {g : RpF γ} {m : Nat} [hl : Len g m] {x : α × β × γ} {Φ : α × β → List Own → Prop} (hm : 0 < m) (kk : Φ (x.1, x.2.1) O) (hK : ∀ j, (F j).K = K := by intro _; rfl) : SLW F K B Γ O (rTup (fCons r1 (fCons r2 g))) x none (some 2) (rTup (fCons r1 (fOne r2))) Φ := by
  intro σ G H v W ⟨c, ws, h1, h2, v1, ws1, e1, q1, v2, ws2, e2, q2, q3⟩ Q q
  subst e1 e2
  have hl2 := hl.len q3
  refine ⟨rSlT K, fun j => by rw [← hK j]; exact sl_tup, c, _, h1, ex_t W.sub h2, ?_, fun p hp => ?_⟩
  · rintro ⟨_, z⟩
    have z : HT.sIx (v1 :: v2 :: ws2).length (v1 :: v2 :: ws2).length (some 2) = (v1 :: v2 :: ws2).length := z
    rw [List.length_cons, List.length_cons, hl2] at z
    unfold HT.sIx at z
    simp at z
    omega
  · have hc : cutV (v1 :: v2 :: ws2) none (some 2) = [v1, v2] := by
      unfold cutV HT.sIx
      simp
    rw [hc]
    have s : Stp B.T [] G H (upd G p (.tup [v1, v2])) (upd H p (.tup [v1, v2])) := Stp.new W.sub hp
    exact q _ O _ _ _ kk (W.step s) s.g ⟨p, _, rfl, SqT.of upd_same, v1, [v2], rfl, r1.mono s.g q1, v2, rfl, r2.mono s.g q2⟩
end
end Sk


set_option Elab.async false
set_option linter.all false
set_option maxRecDepth 100000
set_option maxHeartbeats 4100000
/-! Sk24: a new object of one's own is handed out, or an exception leaves. -/
namespace Sk
open PySem L2 Evl
section
variable {K : Fg} {B : Bs} {Γ : Gm} {O : List Own} {α δ : Type} {ra : RpF α} {pre : α → Prop} {T : List Addr} {r' : Ow δ} {post : α → δ → Prop} {xpost : α → Addr → List (Str × V) → Prop}
abbrev spNX (K : Fg) (T : List Addr) (ra : RpF α) (pre : α → Prop) (r' : Ow δ) (post : α → δ → Prop) (xpost : α → Addr → List (Str × V) → Prop) : Sp := spX K T ra pre (fun _ => []) rAdr (fun x q O' => ∃ d, post x d ∧ O' = [⟨q, r', d⟩]) fun x C fl O' => O' = [] ∧ xpost x C fl
theorem sw_nXF {W : WX} {x : α} {Φ : Addr → List Own → Prop} (hp : pre x) (h : ∀ q d, post x d → q ∉ B.M → Φ q (⟨q, r', d⟩ :: O)) (hx : ∀ C fl, xpost x C fl → XT K B Γ O C fl W) (hT : ∀ P ∈ T, P ∈ B.T := by first | exact fun _ h => h | (intro _ h; cases h)) :
    SWX K B Γ O W (spNX K T ra pre r' post xpost) [] ra x rAdr Φ := by
  intro σ G H vs Ww rv Q q
  refine ⟨G, x, Ww.sub, fun P hP => Ww.tab P (hT P hP), by rw [List.append_nil]; exact rv, hp, fun w hw => absurd hw (by simp), List.nodup_nil, fun v y O' G' H' s hO' hn' r ⟨d, hpost, e⟩ => ?_, fun C fl d O' G' H' s hO' hn' e ⟨e2, hpost⟩ => ?_⟩
  · subst e
    exact q y _ v G' H' (h y d hpost (Ww.notM ((hO' _ List.mem_cons_self).2.2.2.resolve_right (by simp)))) (Ws.after (x := []) (R := O) (O' := [⟨y, r', d⟩]) Ww hT s hO' hn') s.g r
  · subst e2
    exact hx C fl hpost d σ G' H' (Ws.after (x := []) (R := O) (O' := []) Ww hT s hO' hn') e
end
end Sk


set_option Elab.async false
set_option linter.all false
set_option maxRecDepth 100000
set_option maxHeartbeats 4100000
/-! Sk25: enumerate of a tuple. -/
namespace Sk
open PySem L2 Evl PyProof.Rows
/-- the tuple at a, its items in new pairs -/
def IteT (K : PySem.W.Frag) (a : Addr) : It :=
  ⟨fun i H => ∃ (xs : List V) (x : V), SqT K H a xs ∧ xs[i]? = some x,
   fun i H v H' => ∃ T x, v = .ref T ∧ H T = none ∧ H' = upd H T (.tup [.int (i : Nat), x]) ∧ ∀ xs, SqT K H a xs → xs[i]? = some x,
   fun i H => ∃ xs : List V, SqT K H a xs ∧ xs.length = i⟩
theorem en_ne {h : Heap} {e it a : Addr} {c : Int} {old : Value} {items : Array Value} (he : IsEnum h e it c old) (ht : h.IsTuple a items) : e ≠ a := by
  rintro rfl
  obtain ⟨o, q, c1, _⟩ := ht
  rw [show h.get? e = _ from he] at q
  injection q with q
  rw [← q] at c1
  exact absurd (show Value.type "enumerate" = Value.type "tuple" from c1) (by decide)
theorem ti_ne {h : Heap} {it a : Addr} {i : Nat} {items : Array Value} (hi : h.IsTupleIter it a i) (ht : h.IsTuple a items) : a ≠ it := by
  rintro rfl
  obtain ⟨o, q, c1, _⟩ := ht
  obtain ⟨o', q', c1', _⟩ := hi
  rw [q] at q'
  injection q' with q'
  rw [← q', c1] at c1'
  exact absurd c1' (by decide)
theorem turn_enumT {P : Program} {w : World} {K : PySem.W.Frag} {elts : List Expr} {kk : Nat} {tpos : Pos} (a e it : Addr) :
    Turn P w K (.Tuple elts kk tpos) (IteT K a) [e, it] e (fun i h => (∃ old, IsEnum h e it ((i : Nat) : Int) old) ∧ h.IsTupleIter it a i ∧ e ≠ it) where
  mem := List.mem_cons_self ..
  obj := fun i h ⟨⟨old, he⟩, ⟨o, ho, _, hd⟩, _⟩ b hb => by
    rcases List.mem_cons.mp hb with z | hb
    · rw [z]; exact ⟨_, he, fun v q => nomatch q⟩
    · rw [List.mem_singleton.mp hb]
      exact ⟨o, ho, fun v q => by rw [hd] at q; cases q⟩
  keep := fun i h h' ⟨⟨old, he⟩, hi, hne⟩ k => ⟨⟨old, k e (List.mem_cons_self ..) _ he⟩, hi.at fun o q => k it (List.mem_cons_of_mem _ (List.mem_singleton_self _)) o q, hne⟩
  item := by
    intro X e1 e2 e3 hc i pins s σ H E I hf ⟨⟨old, he⟩, hit, hne⟩ ⟨xs, x, hq, hx⟩
    subst e1 e2 e3
    obtain ⟨its, rv, p, hz⟩ := I.tuple hq
    have p : s.heap.IsTuple a its.toArray := p
    obtain ⟨u, hu, ru⟩ := rv.get hx
    have hel : e < s.heap.objs.size := Heap.lt_size he
    have hil : it < s.heap.objs.size := by obtain ⟨_, q, _⟩ := hit; exact Heap.lt_size q
    have hlt : i < its.toArray.size := by
      obtain ⟨z, _⟩ := List.getElem?_eq_some_iff.mp hu
      exact z
    have D := Draws.tuple (prog := X.prog) (w := X.w) (A := X.A.in1) (I.ok.hd hc) it a (ti_ne hit p) its.toArray
    refine wpAny_pyNext_enum_itemD D he ⟨hit, p⟩ hlt hne (fun z => ?_) fun y h' tk hy ho hst hT hsz hk => ?_
    · rcases List.mem_cons.mp z with z | z
      · exact hne z
      · exact en_ne he p (List.mem_singleton.mp z)
    have hyu : y = u := by
      have h1 : its.toArray[i]? = some u := by simpa using hu
      rw [h1] at hy
      cases hy
      rfl
    subst hyu
    refine ⟨_, rfl, wpAny_letOwnedTupleGo_enum (s := { s with heap := h', toks := tk + 1 }) ho fun h'' he' sb => ?_⟩
    have g2 : h''.get? s.heap.objs.size = some { cls := .type "tuple", data := .seq #[.int i tk, y] } := (sb.2 _ (Nat.ne_of_gt hel)).trans hT
    have nw : ObjOk X.prog X.w (upd H s.heap.objs.size (.tup [.int (i : Nat), x])) h'' s.heap.objs.size (.tup [.int (i : Nat), x]) :=
      ⟨show 2 ≤ sizeLine by decide, [.int i tk, y], .cons ⟨_, rfl⟩ (.cons ru .nil), ⟨_, g2, rfl, _, rfl⟩⟩
    have I1 : Inv X pins σ (upd H s.heap.objs.size (.tup [.int (i : Nat), x])) { s with heap := h'', toks := tk + 1 } :=
      I.turnedNew (ch := [e, it]) (fun b ob hb q => (sb.2 b fun z => hb (by rw [z]; exact List.mem_cons_self ..)).trans (hk b ob (fun z => hb (by rw [z]; exact List.mem_cons_self ..)) (fun z => hb (by rw [z]; exact List.mem_cons_of_mem _ (List.mem_singleton_self _))) q)) hf (Nat.le_refl _) nw
    refine ⟨.ref s.heap.objs.size, _, I1, rfl, ⟨_, x, rfl, I.hok.fresh (Nat.le_refl _), rfl, fun ys hy => by rw [I.tuple_inj hy hq]; exact hx⟩, ⟨⟨y, ?_⟩, hst.1.at fun o q => (sb.2 it (Ne.symm hne)).trans q, hne⟩, fun b hb => ?_⟩
    · rw [show ((i + 1 : Nat) : Int) = (i : Int) + 1 by omega]
      exact he'
    · have lt : b < s.heap.objs.size := by
        rcases List.mem_cons.mp hb with z | z
        · rw [z]; exact hel
        · rw [List.mem_singleton.mp z]; exact hil
      exact (upd_ne (Nat.ne_of_lt lt)).trans (hf b hb).1
  done := by
    intro X e1 e2 e3 hc i pins s σ H E I hf ⟨⟨old, he⟩, hit, hne⟩ ⟨xs, hq, hx⟩
    subst e1 e2 e3
    obtain ⟨its, rv, p, hz⟩ := I.tuple hq
    have p : s.heap.IsTuple a its.toArray := p
    obtain ⟨f0, f1, f2, f3, f4, f5⟩ := hf it (List.mem_cons_of_mem _ (List.mem_singleton_self _))
    have hl : its.toArray.size = i := by
      have := rv.length
      rw [List.size_toArray]
      omega
    subst hl
    have D := Draws.tuple (prog := X.prog) (w := X.w) (A := X.A.in1) (I.ok.hd hc) it a (ti_ne hit p) its.toArray
    exact wpAny_pyNext_enum_endD D he ⟨hit, p⟩ fun h' eb => ⟨rfl, I.turned (t' := s.toks) (fun b o hb q => eb b o hb q) f0 f1 f3 f4 f5⟩
  self := fun A i s Q E ⟨⟨_, he⟩, _⟩ h => wpAny_pyIter_enum he h
def iEnumT (K : PySem.W.Frag) (ta : TA) : TI := fun σ H R => ta σ H fun vs H1 => ∃ a xs, vs = [.ref a] ∧ SqT K H1 a xs ∧ R (IteT K a) H1
theorem meets_enumT (v : Value) (o : Obj) (H : Heap → Prop) (B : Begins v o H) :
    Meets (Builtin.«enumerate.__new__» ⟨[.type "enumerate", v], []⟩) (fun _ R s => H s.heap ∧
      R (.ok (.ret (.ref (s.heap.push o).objs.size))) { s with heap := (s.heap.push o).push { cls := .type "enumerate", data := .fields #[.none, .bool false, .ref s.heap.objs.size, rawInt 0, .none, .none] } }) :=
  .of_wp fun prog w A R ⟨hp, g, d, tk, os⟩ ⟨h1, h⟩ => by
    have hsub := sub_enumerate
    have q1 : ∀ {A2 : Around} {E : Value → Shared → Prop} {Q : Value → Shared → Prop}, Q (.ref hp.objs.size) ⟨hp.push o, g, d, tk, os⟩ → wpAny (model prog w) A2 (pyIter v) Q E ⟨hp, g, d, tk, os⟩ :=
      fun q => B.iter prog w _ _ ⟨hp, g, d, tk, os⟩ _ h1 q
    wp_walk using q1
    refine wpAny_stack_any fun st => wpAny_pure ?_
    split
    · rename_i c _ _ _ _ _
      cases (c == Value.type "enumerate") <;> (wp_walk using q1; exact ⟨_, rfl, h⟩)
    · wp_walk using q1
      exact ⟨_, rfl, h⟩
theorem call_enumT {prog : Program} {w : World} {A : Around} {E : Value → Shared → Prop} {s : Shared} {a : Addr} {items : Array Value} {Q : Value → Shared → Prop} (hL : s.heap.IsTuple a items)
    (h : ∀ h', IsEnum h' (s.heap.objs.size + 1) s.heap.objs.size 0 .none → h'.IsTupleIter s.heap.objs.size a 0 → (∀ b o, s.heap.get? b = some o → h'.get? b = some o) → h'.objs.size = s.heap.objs.size + 2 → Q (.ref (s.heap.objs.size + 1)) { s with heap := h' }) :
    wpAny (model prog w) A (call (.type "enumerate") [.ref a]) Q E s := by
  refine callType_new F.called_enumerate (by decide) (F.typeCall_enumerate_1 _) (F.newCall_enumerate_1 _) (fun obj => F.args_object_init_2 obj _) F.entry_enumerate_new (meets_enumT _ _ _ (begins_tuple a items)) ⟨hL, ?_⟩
  have hz : (s.heap.push { cls := .type "tuple_iterator", data := .fields #[.ref a, .int 0 0] }).objs.size = s.heap.objs.size + 1 := Heap.size_push ..
  show _ ∧ _
  rw [hz]
  have he := Heap.get?_push_size (s.heap.push { cls := .type "tuple_iterator", data := .fields #[.ref a, .int 0 0] }) (o := { cls := .type "enumerate", data := .fields #[.none, .bool false, .ref s.heap.objs.size, rawInt 0, .none, .none] }) rfl
  rw [hz] at he
  exact ⟨⟨_, he, rfl⟩, h _ he ⟨_, Heap.get?_push_of_some _ (Heap.get?_push_size _ rfl), rfl, rfl⟩ (fun b o x => Heap.get?_push_of_some _ (Heap.get?_push_of_some _ x)) (by rw [Heap.size_push, hz])⟩
theorem pi_enumT {X : Cx} {e : Expr} {ta : TA} {p pos tpos : Pos} {elts : List Expr} {kk : Nat} (hg : Gl X "enumerate") (hm : X.mg "enumerate" = none) (ha : PA X [e] ta) (hs : starEach [e] X.env = [(false, eval e X.env)]) :
    PI X (.Tuple elts kk tpos) (.Call (.Name "enumerate" p) [e] [] pos) (iEnumT X.K ta) := by
  refine ⟨fun pins s σ H R I h => ?_⟩
  refine PyProof.Rows.Call_ (ld_blt I hg hm boot_enumerate (PyProof.Rows.callWith_type1 (thn (ha.run pos pins s σ H _ I h) fun us s1 ⟨vs, H1, I1, r1, ⟨a, xs, ex, hq, q⟩⟩ => ?_) hs rfl))
  subst ex
  cases r1 with
  | cons r rr =>
    cases rr
    cases r
    obtain ⟨its, rv, p2, hz⟩ := I1.tuple hq
    refine call_enumT (items := its.toArray) p2 fun h' he hit hk hsz => wpAny_pyIter_enum he ?_
    have I2 : Inv X pins σ H1 { s1 with heap := h' } := I1.kept (t' := s1.toks) hk
    refine ⟨s1.heap.objs.size + 1, [s1.heap.objs.size + 1, s1.heap.objs.size], _, _, H1, rfl, I2, turn_enumT a (s1.heap.objs.size + 1) s1.heap.objs.size, ⟨⟨.none, he⟩, hit, Nat.succ_ne_self _⟩, fun b hb => ?_, q⟩
    have hle : s1.heap.objs.size ≤ b := by
      rcases List.mem_cons.mp hb with z | z
      · rw [z]; exact Nat.le_add_right _ _
      · rw [List.mem_singleton.mp z]; exact Nat.le_refl _
    exact I1.fpOk hle (I1.hok.fresh hle)
section
variable {ι : Type} {F : ι → Cx} {K : Fg} {B : Bs} {Γ : Gm} {O : List Own} {α : Type} {ra : Rp α} {e : Expr} {p pos : Pos}
variable {P : Program} {w : World} {mg : Str → Option Value} {base : Heap} {k : Nat}
theorem Gives.enumT {T : List Addr} {Gb : Hp} {c : Addr} {vs : List V} {xs : List α} (h : SqT K Gb c vs) (r : All2 (ra.rep K Gb) vs xs) : Gives K T Gb (IteT K c) (rTup (fCons rInt (fOne ra))) (enm xs) where
  go := fun j G H hj e1 e2 => by
    rw [enm_len] at hj
    have h1 : j < vs.length := by rw [r.length]; exact hj
    exact ⟨vs, vs[j], ex_t (e1.trans e2) h, List.getElem?_eq_getElem h1⟩
  stop := fun G H e1 e2 => by
    refine ⟨vs, ex_t (e1.trans e2) h, ?_⟩
    rw [enm_len, r.length]
  yld := fun j G H v H' hj e1 e2 ⟨t, x, h1, h2, h3, h4⟩ => by
    subst h1 h3
    have hx := h4 vs (ex_t (e1.trans e2) h)
    obtain ⟨y, hy, rep⟩ := r.get hx
    have s : Stp T [] G H (upd G t (.tup [.int (j : Nat), x])) (upd H t (.tup [.int (j : Nat), x])) := Stp.new e2 h2
    exact ⟨((j : Int), y), _, enm_get.mpr ⟨y, hy, rfl⟩, s, t, _, rfl, SqT.of upd_same, _, [x], rfl, rfl, x, rfl, ra.mono (e1.trans s.g) rep⟩
theorem w_enumT [fam : Fam F P w K mg base k] {elts : List Expr} {kk : Nat} {tpos : Pos} {Φ : List (Int × α) → List Own → Prop} (hm : mg "enumerate" = none) (h : DW F K B Γ O e (rTpv ra) fun xs O1 => Φ (enm xs) O1) (hg : ∀ i, Gl (F i) "enumerate" := by intro _; rfl)
    (hs : ∀ i, starEach [e] (F i).env = [(false, eval e (F i).env)] := by intro _; rfl) : DI F K B Γ O (.Tuple elts kk tpos) (.Call (.Name "enumerate" p) [e] [] pos) (rTup (fCons rInt (fOne ra))) Φ := by
  intro σ G H W R q
  have hs2 : ∀ i, starEach [] (F i).env = [] := fun i => rfl
  refine ⟨iEnumT K (tCons (WE F e) tNil), fun i => by rw [← fam.ka i]; exact pi_enumT (hg i) (by rw [fam.mg i]; exact hm) (pa_cons (WE.pe i) pa_nil (by rw [hs i, hs2 i])) (hs i), ?_⟩
  exact h σ G H W _ fun xs O1 v G1 H1 h1 W1 e1 ⟨c, vs, r1, r2, r3⟩ => ⟨c, vs, by rw [r1], ex_t W1.sub r2, q _ _ O1 G1 H1 h1 (Gives.enumT r2 r3) W1 e1⟩
end
/-! ### a list times an int -/
theorem all2_rep {α : Type} {p : V → α → Prop} {vs : List V} {xs : List α} (h : All2 p vs xs) : ∀ n : Nat, All2 p (List.replicate n vs).flatten (List.replicate n xs).flatten
  | 0 => trivial
  | n + 1 => by
    rw [List.replicate_succ, List.replicate_succ, List.flatten_cons, List.flatten_cons]
    exact All2.append h (all2_rep h n)
section
variable {ι : Type} {F : ι → Cx} {K : Fg} {B : Bs} {Γ : Gm} {O : List Own} {α γ : Type} {ra : Rp α} {rc : Rp γ}
theorem o_repO {xs : List γ} {x : α} {n : Int} [h1 : LsH O ra x rc xs] {Φ : Addr → List Own → Prop} (h0 : 0 ≤ n) (hn : n < 2 ^ 62) (hz : xs.length * n.toNat ≤ sizeLine) (kk : ∀ p, p ∉ B.M → Φ p (⟨p, oLst rc, (List.replicate n.toNat xs).flatten⟩ :: O)) : OW F K B Γ O (binaryOp .Mult) ra rInt x n rAdr Φ := by
  intro σ G H v u W rv ru Q q
  obtain ⟨c, vs, a1, a2, a3⟩ := h1.get W rv
  refine ⟨_, fun _ => op_rep, c, n, vs, a1, ru, a2, by omega, by omega, by rw [a3.length]; exact hz, fun p hp => ?_⟩
  exact q p _ _ G _ (kk p (W.notM hp)) (W.newOwn hp (r := oLst rc) (x := (List.replicate n.toNat xs).flatten) ⟨_, rfl, all2_rep a3 _⟩) (Ex.refl _) rfl
end
end Sk


set_option Elab.async false
set_option linter.all false
set_option maxRecDepth 100000
set_option maxHeartbeats 4100000
/-! Sk26: except C as e: return .. e.f .. -/
namespace Sk
open PySem L2 Evl
/-- the exception that a suite holds, its dict at d -/
def rXc (d : Addr) (fl : List (Str × V)) : Rp Addr := ⟨fun _ G v x => v = .ref x ∧ G d = some (.xd fl), fun e h => ⟨h.1, e _ _ h.2⟩⟩
abbrev ιS (cls : Value) (d : Option Addr) : Type := { i : Obj × List (Addr × Obj) // Zc cls d i.1 ∧ ∃ vs, i.1.data = .fields vs }
abbrev Fs (X : Cx) (a : Addr) (cls : Value) (d : Option Addr) : ιS cls d → Cx := fun i => X.suite a ((a, i.1.1) :: i.1.2)
section
variable {P : Program} {w : World} {K : Fg} {mg : Str → Option Value} {base : Heap} {k : Nat} {B : Bs} {Γ : Gm} {O : List Own} {X : Cx}
theorem d_xf {α : Type} {rb : Rp α} {a C d : Addr} {fl : List (Str × V)} {e : Expr} {n : Str} {pos : Pos} {Φ : α → List Own → Prop} (hK : X.K = K) (T : XfC K C) (hno : PySem.W.findIn K (.ref C) n = some none)
    (h : DW (Fs X a (.ref C) (some d)) K B Γ O e (rXc d fl) fun q O1 => q = a ∧ ∃ v y, fl.lookup n = some v ∧ (∀ {K' : Fg} {G : Hp}, rb.rep K' G v y) ∧ Φ y O1)
    (hb : attributeBase e n X.env (eval e X.env) = eval e X.env := by rfl) : DW (Fs X a (.ref C) (some d)) K B Γ O (.Attribute e n pos) rb Φ := by
  intro σ G H W Q q
  subst hK
  refine ⟨tXf a (.ref C) (some d) C n (WE (Fs X a (.ref C) (some d)) e), fun i => pe_xf T hno i.2.1 i.2.2 (WE.pe (F := Fs X a (.ref C) (some d)) i) hb, ?_⟩
  refine h σ G H W _ fun x O1 v G1 H1 ⟨hq, u, y, h1, h2, kk⟩ W1 e1 r1 => ?_
  subst hq
  exact ⟨r1.1, rfl, d, fl, u, rfl, W1.sub _ _ r1.2, h1, q y O1 u G1 H1 kk W1 e1 h2⟩
/-- within try: return e; the clause with a name: return e2 -/
abbrev wAsR (X : Cx) (K : Fg) (c : Value) (i : Nat) (e2 : Expr) (D : Ends) : WX := wAs K c i (fun a cls d => fun D σ H => WE (Fs X a cls d) e2 σ H D.rt) wNo D
theorem xt_as {β : Type} {rb : Rp β} {C : Addr} {fl : List (Str × V)} {D : Ends} {e2 : Expr} {i : Nat} {f : Option Slot → Gm} [hg : SetG Γ i f] (hm : PySem.W.exmOne K (.ref C) (.ref C) = some true)
    (h : ∀ a d, DW (Fs X a (.ref C) (some d)) K B (f (some ⟨rXc d fl, a⟩)) O e2 rb fun y O' => RT K B (f (some ⟨rXc d fl, a⟩)) O' rb y D) : XT K B Γ O C fl (wAsR X K (.ref C) i e2 D) :=
  fun d σ G H W hd => ⟨true, hm, fun _ a ha => h a d (σ.set i (some (.ref a))) G H (by rw [hg.eq]; exact W.set (s := ⟨rXc d fl, a⟩) i ⟨rfl, hd⟩) _ fun y O' v G' H' kk W' _ r => kk v _ G' H' W' r, fun z => Bool.noConfusion z⟩
variable {e e2 : Expr} {n n2 x : Str} {np p1 p2 p3 p4 p5 p6 : Pos} {c : Value} {i : Nat} {α : Type} {ra : Rp α} {D : Ends} {rest : List Stmt}
theorem s_tryAsRet [fam : Fam (Us X) P w K mg base k] (i : Nat) (hs : X.stack = X.env :: X.outer) (hf : X.env.frame = some X.env.locals) (hc : Names X x c)
    (h : DW (Ft X (wAsR X K c i e2 { D with nx := WSs X rest D })) K B Γ O e ra fun y O' => RT K B Γ O' ra y D) (hi : X.N[i]? = some n := by rfl) (hln : X.env.kindOf n = some .local := by rfl) :
    DS X K B Γ O (.Try [.Return (some e) p1] [.ExceptHandler (some (.Name x np)) (some n) [.Return (some e2) p3] p4] [] [] p5 :: rest) D := by
  intro σ G H Ww
  have hK : X.K = K := fam.ka ()
  refine WSs.cons (ps_try_as (i := i) (tb := fun W => fun D σ H => WE (Ft X W) e σ H D.rt) (ts := fun a cls d => fun D σ H => WE (Fs X a cls d) e2 σ H D.rt) (Wout := wNo) hs hf (fam.nd ()) hi hln hc (fun u s' ⟨_, _, _, _, _, _, _, _, _, _, _, _, _, _, _, _, z⟩ => z.elim)
    (fun W pn xe tk po => pss_one (ps_ret (te := WE (Ft X W) e) (WE.pe (F := Ft X W) ⟨(pn, xe), tk, po⟩))) (fun a oe cls d pn hz hff => pss_one (ps_ret (WE.pe (F := Fs X a cls d) ⟨(oe, pn), hz, hff⟩)))) ?_
  rw [hK]
  exact h σ G H Ww _ fun y O' v G' H' kk W' _ r => kk v σ G' H' W' r
theorem s_tryAsSet [fam : Fam (Us X) P w K mg base k] (i j : Nat) {f : Option Slot → Gm} [hg : SetG Γ j f] (hs : X.stack = X.env :: X.outer) (hf : X.env.frame = some X.env.locals) (hc : Names X x c)
    (h : DW (Ft X (wAsR X K c i e2 { D with nx := WSs X rest D })) K B Γ O e ra fun y O' => DS X K B (f (some ⟨ra, y⟩)) O' rest D) (hi : X.N[i]? = some n := by rfl) (hln : X.env.kindOf n = some .local := by rfl) (hj : X.N[j]? = some n2 := by rfl)
    (hx : Loc X.env.scope n2 := by first | exact Or.inl rfl | exact Or.inr rfl) (hsw : swapsWith e (some (.Name n2 p2)) p1.line X.env = pure false := by rfl) (hfn : X.fn n2 = true ∨ X.env.scope.names.lookup n2 = some .local := by first | exact .inr rfl | exact .inl rfl) :
    DS X K B Γ O (.Try [.Assign [.Name n2 p2] e p1] [.ExceptHandler (some (.Name x np)) (some n) [.Return (some e2) p3] p4] [] [] p5 :: rest) D := by
  intro σ G H Ww
  have hK : X.K = K := fam.ka ()
  refine WSs.cons (ps_try_as (i := i) (tb := fun W => tAsg (WE (Ft X W) e) (gName j)) (ts := fun a cls d => fun D σ H => WE (Fs X a cls d) e2 σ H D.rt) (Wout := wNo) hs hf (fam.nd ()) hi hln hc (fun u s' ⟨_, _, _, _, _, _, _, _, _, _, _, _, _, _, _, _, z⟩ => z.elim)
    (fun W pn xe tk po => pss_one (ps_set (X := X.tr pn xe) (te := WE (Ft X W) e) (fam.nd ()) hj hx (WE.pe (F := Ft X W) ⟨(pn, xe), tk, po⟩) hsw hfn)) (fun a oe cls d pn hz hff => pss_one (ps_ret (WE.pe (F := Fs X a cls d) ⟨(oe, pn), hz, hff⟩)))) ?_
  rw [hK]
  exact h σ G H Ww _ fun y O' v G' H' kk W' _ r => kk _ G' H' (by rw [hg.eq]; exact W'.set j r)
end
end Sk


set_option Elab.async false
set_option linter.all false
set_option maxRecDepth 100000
set_option maxHeartbeats 4100000
/-! Sk27: for i, x in enumerate(xs), xs a list of one's own. -/
namespace Sk
open PySem L2 Evl
section
variable {K : Fg} {B : Bs} {Γ : Gm} {O : List Own} {α : Type} {ra : Rp α} {q : Addr} {xs : List α} {σ : St} {G H H' : Hp} {i : Nat} {v : V}
theorem own_goE (m : (⟨q, oLst ra, xs⟩ : Own) ∈ O) (W : Ws K B Γ O σ G H) (hi : i < xs.length) : (Ite K q).go i H := by
  obtain ⟨vs, h1, h3⟩ := own_lst m W
  have hv : i < vs.length := by rw [h3.length]; exact hi
  exact ⟨vs, vs[i], SqL.of h1, List.getElem?_eq_getElem hv⟩
theorem own_stopE (m : (⟨q, oLst ra, xs⟩ : Own) ∈ O) (W : Ws K B Γ O σ G H) : (Ite K q).stop xs.length H := by
  obtain ⟨vs, h1, h3⟩ := own_lst m W
  exact ⟨vs, SqL.of h1, by rw [h3.length]; exact Nat.le_refl _⟩
theorem own_yldE (m : (⟨q, oLst ra, xs⟩ : Own) ∈ O) (W : Ws K B Γ O σ G H) (hi : i < xs.length) (y : (Ite K q).yld i H v H') : ∃ x G', xs[i]? = some x ∧ Stp B.T [] G H G' H' ∧ (rTup (fCons rInt (fOne ra))).rep K G' v ((i : Int), x) := by
  obtain ⟨vs, h1, h3⟩ := own_lst m W
  obtain ⟨t, u, e1, e2, e3, e4⟩ := y
  obtain ⟨x, hx, hr⟩ := h3.get (e4 vs (SqL.of h1))
  subst e1 e3
  have s : Stp B.T [] G H (upd G t (.tup [.int (i : Nat), u])) (upd H t (.tup [.int (i : Nat), u])) := Stp.new W.sub e2
  exact ⟨x, _, hx, s, t, _, rfl, SqT.of upd_same, _, [u], rfl, rfl, u, rfl, ra.mono s.g hr⟩
variable {X : Cx} {D : Ends} {e tg : Expr} {rest body : List Stmt} {p pos tpos ipos : Pos} {elts : List Expr} {kk : Nat}
variable {P : Program} {w : World} {mg : Str → Option Value} {base : Heap} {k : Nat}
theorem s_forE [fam : Fam (Us X) P w K mg base k] {js : List Nat} (hm : mg "enumerate" = none)
    (h : DW (Us X) K B Γ O e rAdr fun q0 O1 => ∃ xs f, OwnAt O1 q0 (oLst ra) xs f ∧ ∃ (δ : Type) (Pv : Nat → δ → Prop) (Γf : δ → Gm) (Of : δ → List Own), (∃ d, Pv 0 d ∧ Wk Γ (Γf d) ∧ O1 = Of d) ∧ (∀ i d, Pv i d → (⟨q0, oLst ra, xs⟩ : Own) ∈ Of d) ∧
      (∀ g i x d, xs[i]? = some x → Pv i d → DG (Us X) K (B.push g) (Γf d) (Of d) (.Tuple elts kk tpos) (rTup (fCons rInt (fOne ra))) ((i : Int), x) js fun Γ' => DS X K (B.push g) Γ' (Of d) body (LpE X K (B.push g) (Pv (i + 1)) Γf Of rest D)) ∧
      (∀ d, Pv xs.length d → DS X K B (Γf d) (Of d) rest D))
    (hp : PassesOwn (model X.prog X.w) X.A X.env X.xe := by first | exact PassesOwn.never | assumption) (hg : Gl X "enumerate" := by rfl) (hs2 : starEach [e] X.env = [(false, eval e X.env)] := by rfl)
    (hs : ∀ x, foldedSetIterable (.Call (.Name "enumerate" p) [e] [] ipos) X.env x = pure x := by intro _; rfl) : DS X K B Γ O (.For (.Tuple elts kk tpos) (.Call (.Name "enumerate" p) [e] [] ipos) body [] pos :: rest) D := by
  intro σ G H W
  have hs3 : starEach [] X.env = [] := rfl
  have hwi : PI X (.Tuple elts kk tpos) (.Call (.Name "enumerate" p) [e] [] ipos) (iEnum K (tCons (WE (Us X) e) tNil)) := by
    have := pi_enum (X := X) (elts := elts) (kk := kk) (tpos := tpos) (p := p) (pos := ipos) hg (by have z := fam.mg (); rw [show X.mg = mg from z]; exact hm) (pa_cons (WE.pe (F := Us X) ()) pa_nil (by rw [hs2, hs3])) hs2
    rw [show X.K = K from fam.ka ()] at this
    exact this
  refine WSs.cons (ps_for hp (fam.cm ()) hwi (WG.pg (F := Us X) ()) (WSs.pss (X := X)) hs) ?_
  refine h σ G H W _ fun q0 O1 v0 G1 H1 ⟨xs, f, hO, δ, Pv, Γf, Of, ⟨d0, p0, w0, o0⟩, hmem, hst, hd⟩ W1 e1 r1 => ?_
  obtain ⟨j, hj, _⟩ := hO.at_
  have m0 := List.mem_of_getElem? hj
  obtain ⟨vs, h1, h3⟩ := own_lst m0 W1
  refine ⟨q0, vs, by rw [show v0 = _ from r1], SqL.of h1, ?_⟩
  refine ⟨fun i m σ H => m = xs.length - i ∧ i ≤ xs.length ∧ LpJ K (B.push G1) (Pv i) Γf Of σ H, ⟨xs.length, by simp, Nat.zero_le _, d0, G1, p0, ?_⟩, ?_⟩
  · rw [← o0]
    exact (W1.wk w0).base
  rintro i m σ2 H2 ⟨rfl, hi, d, G2, pd, W2⟩
  by_cases hlt : i < xs.length
  · refine .inr ⟨own_goE (hmem i d pd) W2 hlt, LpJ K (B.push G1) (Pv (i + 1)) Γf Of, fun σ' H' j => ⟨xs.length - (i + 1), by omega, rfl, hlt, j⟩, fun v H3 y => ?_⟩
    obtain ⟨x, G3, hx, s3, r3⟩ := own_yldE (hmem i d pd) W2 hlt y
    exact hst G1 i x d hx pd σ2 G3 H3 v (W2.step s3) r3 _ fun Γ' σ' q W' _ => q σ' G3 H3 W'
  · obtain rfl : i = xs.length := by omega
    exact .inl ⟨own_stopE (hmem _ d pd) W2, hd d pd σ2 G2 H2 W2.unbase⟩
end
end Sk


set_option Elab.async false
set_option linter.all false
set_option maxRecDepth 100000
set_option maxHeartbeats 4100000
/-! Sk28: the frame of a generator expression. -/
namespace Sk
open PySem L2 Evl PyProof.Rows
/-- the context of a generator expression's frame; s, H: what stood ahead of it -/
abbrev gxX (X : Cx) (A' : Around) (s : Shared) (H : Hp) (ce : Env) (fp : List Addr) : Cx :=
  { X with A := A', s_0 := s, H_0 := H, env := ce, outer := X.stack, stack := ce :: X.stack, ex := fp, fn := fun _ => false, pn := [], xe := fun _ _ => False }
structure GxOk (N : List Str) (sc scope : Scope) (own : List (Str × Nat)) : Prop where
  blk : BlkOk N sc scope own
  co : scope.isCoroutine = false
  cell : ∀ y ∈ scope.names, y.2 ≠ .cell
  dot : scope.names.lookup (".0" : Str) = some NameKind.local
section
variable {X : Cx} {pins : List (Addr × Obj)} {σ : L2.St} {H : Hp} {s : Shared}
theorem gx_cells {cells : List (Str × Addr)} {scope : Scope} (hf : ∀ y ∈ scope.names, y.2 = .free → ∃ c, cells.lookup y.1 = some c) {y : Str} {c : Addr} (e : (cloFrom cells scope.names []).lookup y = some c) : cells.lookup y = some c ∧ (y, NameKind.free) ∈ scope.names := by
  rcases cloFrom_mem (PySem.mem_of_lookup e) with h | ⟨h1, h2⟩
  · cases h
  · obtain ⟨c', hc⟩ := hf _ h1 rfl
    have hc : cells.lookup y = some c' := hc
    rw [hc] at h2
    have h2 : c = c' := h2
    rw [h2]
    exact ⟨hc, h1⟩
theorem gx_start {A' : Around} {scope : Scope} {own : List (Str × Nat)} {fp : List Addr} {code : Value} {h5 : Heap} {gs : GenState} {tk : Nat} {a : Addr} {go : Obj} {mm : Str → Option Value} (I : Inv X pins σ H s) (ok : GxOk X.N X.env.scope scope own) (hN : X.N.Nodup)
    (hfp : ∀ b ∈ fp, FpOk X pins H b ∧ b < s.heap.objs.size) (hA : X.calm = true → A'.handled = none) (hA2 : A'.frames = some (genEnv scope (cloFrom X.env.cells scope.names []) s.heap.objs.size code builtinsNs X.env :: X.stack))
    (hgs : gs.bare = true) (hk : ∀ b o, s.heap.get? b = some o → h5.get? b = some o) (hns : h5.Ns s.heap.objs.size mm) (ha : h5.get? a = some go) (ha2 : s.heap.objs.size < a) (hgo : ∀ v, go.data ≠ .cell v) :
    Inv (gxX X A' s H (genEnv scope (cloFrom X.env.cells scope.names []) s.heap.objs.size code builtinsNs X.env) fp) [(a, go)] (wipe σ (own.map (·.2))) H { s with gens := s.gens.push gs, toks := tk, heap := h5 } := by
  have hf : ∀ y ∈ scope.names, y.2 = .free → ∃ c, X.env.cells.lookup y.1 = some c := fun y hy e => (ok.blk.free y hy e).elim (fun k => I.ok.has _ (.inl k)) (fun k => I.ok.has _ (.inr k))
  generalize hce : genEnv scope (cloFrom X.env.cells scope.names []) s.heap.objs.size code builtinsNs X.env = ce at hA2
  have eL : ce.locals = s.heap.objs.size := by rw [← hce]; rfl
  have eC : ce.cells = cloFrom X.env.cells scope.names [] := by rw [← hce]; rfl
  have eS : ce.scope = scope := by rw [← hce]; rfl
  have cm : ∀ {y c}, ce.cells.lookup y = some c → X.env.cells.lookup y = some c := fun {y c} e => by
    rw [eC] at e
    exact (gx_cells hf e).1
  have nof : ∀ {x : Str}, scope.names.lookup x = some .cell → False := fun {x} h => ok.cell _ (PySem.mem_of_lookup h) rfl
  have okB : (gxX X A' s H ce fp).Ok := by
    refine { mod := I.ok.mod, kind := ?_, glob := ?_, blt := ?_, above := ?_, inj := ?_, has := ?_, cab := ?_, hd := hA, frames := hA2, stk := .inr ⟨rfl, ?_⟩, exf := ?_, bs := I.bs, bsz := Nat.le_trans I.ok.bsz I.sz, noex := ?_, exfs := ?_, funs := I.stack, frf := I.stkFree }
    · show ce.scope.kind = _
      rw [eS]
      exact ok.blk.kind
    · show ce.globals = _
      rw [← hce]
      exact I.ok.glob
    · show ce.builtins = _
      rw [← hce]
      rfl
    · show s.heap.objs.size ≤ ce.locals
      rw [eL]
      exact Nat.le_refl _
    · intro x y c e1 e2
      exact I.ok.inj x y c (cm e1) (cm e2)
    · intro x hx
      show ∃ c, ce.cells.lookup x = some c
      have hx : ce.scope.names.lookup x = some .cell ∨ ce.scope.names.lookup x = some .free := hx
      rw [eS] at hx
      rcases hx with hx | hx
      · exact (nof hx).elim
      · rw [eC]
        exact mem_lookup (cloFrom_has (cells := X.env.cells) (acc := []) (PySem.mem_of_lookup hx))
    · intro x c z _
      exact absurd z Bool.false_ne_true
    · show ce.frame = some ce.locals
      rw [← hce]
      rfl
    · intro b hb
      refine ⟨?_, fun x c e z => ?_⟩
      · show b ≠ ce.locals
        rw [eL]
        exact Nat.ne_of_lt (hfp b hb).2
      · exact (hfp b hb).1.2.2.2.2.1 x c (cm e) z
    · intro b o e hb
      rcases (hfp b hb).1.2.2.2.1 with z | z
      · exact I.ok.noex b o e z
      · exact Nat.lt_irrefl _ (Nat.lt_of_lt_of_le (Heap.lt_size e) (Nat.le_trans I.ok.bsz z))
    · intro b hb z
      rcases List.mem_cons.mp (I.stkSub b z) with q | q
      · exact (hfp b hb).1.2.1 q
      · exact (hfp b hb).1.2.2.1 q
  have hH : ∀ {b : Addr}, s.heap.objs.size ≤ b → H b = none := fun h => I.hok.fresh h
  refine { ok := okB, os := rfl, bare := ?_, base := Un.kept hk, loc := ⟨mm, ?_, fun i y av e1 e2 e3 => ?_⟩, cell := fun y c e => ?_, free := ?_, freeC := fun y c e => I.freeC y c (cm e), pin := fun p hp => ?_, hok := I.hok.kept hk, len := by rw [wipe_length]; exact I.len }
  · intro x hx
    rcases Array.mem_push.mp hx with z | z
    · exact I.bare x z
    · rw [z]
      exact hgs
  · show h5.Ns ce.locals mm
    rw [eL]
    exact hns
  · obtain ⟨e4, e5⟩ := wipe_some e2
    have e1 : X.N[i]? = some y := e1
    have hfr : scope.names.lookup y = some .free := by
      have own : scope.names.lookup y = some .local → False := fun h => by
        rcases ok.blk.own _ (PySem.mem_of_lookup h) (.inl rfl) with q | q
        · obtain ⟨p, hp, hpy⟩ := List.mem_map.mp q
          have q2 := ok.blk.ix p hp
          rw [show p.1 = y from hpy] at q2
          exact e5 (List.mem_map.mpr ⟨p, hp, nodup_ix hN q2 e1⟩)
        · exact q (List.mem_of_getElem? e1)
      have e3 : Vis ce.scope y := e3
      rw [eS] at e3
      rcases e3 with h | h | h
      · exact (own h).elim
      · exact (nof h).elim
      · exact h
    have hfm := PySem.mem_of_lookup hfr
    obtain ⟨m, hn, hl⟩ := I.loc
    have hv : Vis X.env.scope y := (ok.blk.free _ hfm rfl).elim (fun k => .inr (.inl k)) (fun k => .inr (.inr k))
    obtain ⟨u, ru, q⟩ := hl i y av e1 e4 hv
    obtain ⟨c, hc⟩ := mem_lookup (cloFrom_has (cells := X.env.cells) (acc := []) hfm)
    have hc2 := (gx_cells hf hc).1
    refine ⟨u, ru, .inr ⟨.inr (by show ce.scope.names.lookup y = _; rw [eS]; exact hfr), c, by show ce.cells.lookup y = _; rw [eC]; exact hc, ?_⟩⟩
    rcases q with ⟨k, _⟩ | ⟨_, c', e', z⟩
    · have k : X.env.scope.names.lookup y = some .local := k
      rcases ok.blk.free _ hfm rfl with k' | k'
      · rw [show X.env.scope.names.lookup y = _ from k'] at k
        cases k
      · rw [show X.env.scope.names.lookup y = _ from k'] at k
        cases k
    · rw [hc2] at e'
      cases e'
      exact z.keeps hk
  · obtain ⟨v, z⟩ := I.cell y c (cm e)
    exact ⟨v, z.keeps hk⟩
  · show H ce.locals = none
    rw [eL]
    exact hH (Nat.le_refl _)
  · have e : p = (a, go) := by
      rcases List.mem_append.mp hp with z | z
      · cases z
      · exact List.mem_singleton.mp z
    subst e
    refine ⟨ha, hH (Nat.le_of_lt ha2), ?_, fun z => (List.mem_cons.mp (I.stkSub _ z)).elim (fun q => Nat.lt_irrefl _ (by have h1 := I.lt; rw [← q] at h1; exact Nat.lt_trans ha2 h1)) (fun q => I.nofs (Nat.le_of_lt ha2) q), hgo⟩
    show a ≠ ce.locals
    rw [eL]
    exact Nat.ne_of_gt ha2
end
end Sk


set_option Elab.async false
set_option linter.all false
set_option maxRecDepth 100000
set_option maxHeartbeats 4100000
/-! Sk29: a generator expression that sleeps; next; any, all of one. -/
namespace Sk
open PySem L2 Evl PyProof.Rows GenW
abbrev Slp := Shared → Prop
/-- where a generator may sleep; a: its object go -/
structure SlOk (a : Addr) (go : Obj) (S : Slp) : Prop where
  lim : ∀ s, S s → s.heap.NoLimit
  at_ : ∀ s, S s → s.heap.get? a = some go
  bare : ∀ s, S s → AllBare s.gens
  gens : ∀ s G, S s → AllBare G → S { s with gens := G }
def gxY (a : Addr) (go : Obj) (Yd : Nat → V → Slp → Shared → Prop) : Protocol := fun m _ v s kap => ∃ y S, RelV y v ∧ SlOk a go S ∧ AllBare s.gens ∧ Yd m y S s ∧ ∀ s2 : Shared, S s2 → kap (.send .none) s2
def gxR (Dn : Nat → Slp) (m : Nat) (_ s1 : Shared) : Prop := AllBare s1.gens ∧ Dn m s1
theorem Inv.gens {Z : Cx} {pins : List (Addr × Obj)} {σ : L2.St} {H : Hp} {s : Shared} {G : Array GenState} (I : Inv Z pins σ H s) (h : AllBare G) : Inv Z pins σ H { s with gens := G } :=
  { ok := I.ok, os := I.os, bare := h, base := I.base, loc := I.loc, cell := I.cell, free := I.free, freeC := I.freeC, pin := I.pin, hok := I.hok, len := I.len }
section
variable {prog : Program} {w : World} {A : Around} {a : Addr} {gi : Nat} {go : Obj} {Yd : Nat → V → Slp → Shared → Prop} {Dn : Nat → Slp}
def GxLive (prog : Program) (w : World) (A : Around) (a : Addr) (go : Obj) (Yd : Nat → V → Slp → Shared → Prop) (Dn : Nat → Slp) (gi n : Nat) (s : Shared) : Prop :=
  ∃ gs S, s.gens[gi]? = some gs ∧ SlOk a go S ∧ S s ∧ ∀ s2, S s2 → gs.Goes (model prog w) A.in1 (fun m s0 r s1 => r = .ok .next ∧ gxR Dn m s0 s1) (gxY a go Yd) n (.send .none) s2
theorem gx_next {E : Value → Shared → Prop} {n : Nat} {s : Shared} (hh : A.handled = none) (hroom : A.depth < recursionLimit) (hG : ∀ h : Heap, h.get? a = some go → h.IsGen a gi) (hD : ∀ m s G h', Dn m s → AllBare G → (∀ b o, s.heap.get? b = some o → h'.get? b = some o) → Dn m { s with gens := G, heap := h' })
    (hY : ∀ m y S s G, SlOk a go S → Yd m y S s → AllBare G → Yd m y S { s with gens := G }) (hl : GxLive prog w A a go Yd Dn gi n s) :
    wpAny (model prog w) A (pyNext (.ref a)) (fun r s1 => (r = none ∧ Dn n s1) ∨ ∃ v y S, r = some v ∧ RelV y v ∧ Yd (n - 1) y S s1 ∧ (∀ s' : Shared, s'.gens = s1.gens → S s' → 0 < n ∧ GxLive prog w A a go Yd Dn gi (n - 1) s')) E s := by
  obtain ⟨gs, S, hgs, so, hs, goes⟩ := hl
  have hgl : gi < s.gens.size := (Array.getElem?_eq_some_iff.mp hgs).1
  have atR : S (s.setGen gi .running) := so.gens s _ hs (allBare_setGen (so.bare s hs) rfl)
  refine wpAny_gsz (n := gi + 1) hgl (wpAny_pyNext_genexpQ (P := gxR Dn) hh (so.lim s hs) hroom (hG _ (so.at_ s hs)) hgs (goes _ atR) (fun v s1 gs' hb hv hsz => ?_) (fun s1 hp h' hk _ => ?_))
  · obtain ⟨y, S1, r, so1, b1, yd, kap⟩ := hv
    have hsz1 : gi < s1.gens.size := by
      have q : (s1.setGen gi gs').gens.size = s1.gens.size := setGen_size _ _ _
      have z : gi + 1 ≤ (s1.setGen gi gs').gens.size := hsz
      omega
    have bare2 : AllBare (s1.setGen gi gs').gens := allBare_setGen b1 hb
    refine .inr ⟨v, y, S1, rfl, r, hY (n - 1) y S1 s1 _ so1 yd bare2, fun s' eg hS => ?_⟩
    cases n with
    | zero => exact (kap _ hS).elim
    | succ m => exact ⟨Nat.succ_pos m, gs', S1, by rw [eg]; exact setGen_at hsz1, so1, hS, kap⟩
  · obtain ⟨b1, dn⟩ := hp
    exact .inl ⟨rfl, hD n s1 _ h' dn (allBare_setGen b1 rfl) hk⟩
end
section
variable {prog : Program} {w : World} {A : Around} {E : Value → Shared → Prop} {s : Shared}
/-- any's loop, all's loop (stop: the truth at which it stops) by an invariant -/
theorem any_inv {I : Addr} {R : Result → Shared → Prop} (J : Nat → Shared → Prop) (turn : ∀ m s, J m s → wpAny (model prog w) A.in1 (pyNext (.ref I)) (fun r s1 => (r = none ∧ R (.ok (.ret (.bool false))) s1) ∨ ∃ b, r = some (.bool b) ∧ (b = true → R (.ok (.ret (.bool true))) s1) ∧ (b = false → ∃ m', m' < m ∧ J m' s1)) (fun _ _ => False) s) :
    ∀ (m : Nat) (s : Shared), J m s → codeAny (model prog w) A (.builtin "any.loop" ⟨[.ref I], []⟩) R s := by
  intro m
  induction m using Nat.strongRecOn with
  | ind m ih =>
    intro s hJ
    refine codeAny_builtin F.entry_any_loop ?_
    rw [Around.under_plainId F.plain_any_loop _]
    show wpAny _ A.in1 (pyNext (.ref I) >>= _) _ _ s
    refine wpAny_bind (wpAny_mono (turn m s hJ) (fun r s1 h => ?_) fun _ _ z => z.elim)
    rcases h with ⟨e, h⟩ | ⟨b, e, ht, hf⟩
    · subst e
      exact wpAny_bind (wpAny_rule (wpAny_pure h))
    · subst e
      refine wpAny_bind (wpAny_holding (wpAny_truthy_bool (wpAny_bind (wpAny_letGo ?_))))
      cases b with
      | true => exact wpAny_bind (wpAny_rule (wpAny_pure (ht rfl)))
      | false =>
        obtain ⟨m', hm, hJ'⟩ := hf rfl
        exact wpAny_pure ⟨plainId_quiet F.plain_any_loop _, ih m' hm s1 hJ'⟩
theorem all_inv {I : Addr} {R : Result → Shared → Prop} (J : Nat → Shared → Prop) (turn : ∀ m s, J m s → wpAny (model prog w) A.in1 (pyNext (.ref I)) (fun r s1 => (r = none ∧ R (.ok (.ret (.bool true))) s1) ∨ ∃ b, r = some (.bool b) ∧ (b = false → R (.ok (.ret (.bool false))) s1) ∧ (b = true → ∃ m', m' < m ∧ J m' s1)) (fun _ _ => False) s) :
    ∀ (m : Nat) (s : Shared), J m s → codeAny (model prog w) A (.builtin "all.loop" ⟨[.ref I], []⟩) R s := by
  intro m
  induction m using Nat.strongRecOn with
  | ind m ih =>
    intro s hJ
    refine codeAny_builtin F.entry_all_loop ?_
    rw [Around.under_plainId F.plain_all_loop _]
    show wpAny _ A.in1 (pyNext (.ref I) >>= _) _ _ s
    refine wpAny_bind (wpAny_mono (turn m s hJ) (fun r s1 h => ?_) fun _ _ z => z.elim)
    rcases h with ⟨e, h⟩ | ⟨b, e, hf, ht⟩
    · subst e
      exact wpAny_bind (wpAny_rule (wpAny_pure h))
    · subst e
      refine wpAny_bind (wpAny_holding (wpAny_truthy_bool (wpAny_bind (wpAny_letGo ?_))))
      cases b with
      | false => exact wpAny_bind (wpAny_rule (wpAny_pure (hf rfl)))
      | true =>
        obtain ⟨m', hm, hJ'⟩ := ht rfl
        exact wpAny_pure ⟨plainId_quiet F.plain_all_loop _, ih m' hm s1 hJ'⟩
end
section
variable {prog : Program} {w : World} {A : Around} {E : Value → Shared → Prop}
theorem call_anyI {a gi : Addr} {s : Shared} {Q : Value → Shared → Prop} (hg : s.heap.IsGen a gi) (J : Nat → Shared → Prop) (turn : ∀ m s, J m s → wpAny (model prog w) A.in1 (pyNext (.ref a)) (fun r s1 => (r = none ∧ Q (.bool false) s1) ∨ ∃ b, r = some (.bool b) ∧ (b = true → Q (.bool true) s1) ∧ (b = false → ∃ m', m' < m ∧ J m' s1)) (fun _ _ => False) s)
    {m : Nat} (hJ : J m s) : wpAny (model prog w) A (call (.builtin "any") [.ref a]) Q E s := by
  refine call_function_tree F.kind_any F.plain_any F.entry_any (F.args_any1 _) ?_
  unfold Builtin.«any»
  refine wpAny_bind (m := oneArg "any" _) (wpAny_pure (wpAny_bind (wpAny_pyIter_gen hg ?_)))
  refine wpAny_pure ⟨plainId_quiet F.plain_any_loop _, any_inv J (fun m s h => wpAny_mono (turn m s h) (fun r s1 z => ?_) fun _ _ z => z) m s hJ⟩
  rcases z with ⟨e, q⟩ | ⟨b, e, q1, q2⟩
  · exact .inl ⟨e, by simpa using q⟩
  · exact .inr ⟨b, e, fun z => by simpa using q1 z, q2⟩
theorem call_allI {a gi : Addr} {s : Shared} {Q : Value → Shared → Prop} (hg : s.heap.IsGen a gi) (J : Nat → Shared → Prop) (turn : ∀ m s, J m s → wpAny (model prog w) A.in1 (pyNext (.ref a)) (fun r s1 => (r = none ∧ Q (.bool true) s1) ∨ ∃ b, r = some (.bool b) ∧ (b = false → Q (.bool false) s1) ∧ (b = true → ∃ m', m' < m ∧ J m' s1)) (fun _ _ => False) s)
    {m : Nat} (hJ : J m s) : wpAny (model prog w) A (call (.builtin "all") [.ref a]) Q E s := by
  refine call_function_tree F.kind_all F.plain_all F.entry_all (F.args_all1 _) ?_
  unfold Builtin.«all»
  refine wpAny_bind (m := oneArg "all" _) (wpAny_pure (wpAny_bind (wpAny_pyIter_gen hg ?_)))
  refine wpAny_pure ⟨plainId_quiet F.plain_all_loop _, all_inv J (fun m s h => wpAny_mono (turn m s h) (fun r s1 z => ?_) fun _ _ z => z) m s hJ⟩
  rcases z with ⟨e, q⟩ | ⟨b, e, q1, q2⟩
  · exact .inl ⟨e, by simpa using q⟩
  · exact .inr ⟨b, e, fun z => by simpa using q1 z, q2⟩
end
end Sk


set_option Elab.async false
set_option linter.all false
set_option maxRecDepth 100000
set_option maxHeartbeats 4100000
/-! Sk30: a generator expression runs (one clause, two clauses). -/
namespace Sk
open PySem L2 Evl PyProof.Rows
abbrev gxOne (elt tg iter : Expr) (scope : Scope) (pos : Pos) : Expr := .GeneratorExp elt [⟨tg, iter, [], 0⟩] scope pos
abbrev gxTwo (elt tg iter tg2 iter2 : Expr) (scope : Scope) (pos : Pos) : Expr := .GeneratorExp elt [⟨tg, iter, [], 0⟩, ⟨tg2, iter2, [], 0⟩] scope pos
abbrev gxC (e : Expr) (d : Nat) (it : Addr) (ce : Env) : Code := .compLoop e d (.ref it) .none ce
abbrev gx0 (e : Expr) (d : Nat) (it : Addr) (ce : Env) : Code := .compStart e d (.ref it) .none ce
theorem gx_turn1 (elt tg iter : Expr) (scope : Scope) (pos : Pos) (it acc : Value) (env : Env) : compTurn (gxOne elt tg iter scope pos) 0 it acc env = (do
      standAt iter.pos
      match ← pyNext it with
      | none => pure (.done .next)
      | some v =>
        letOwnedTupleGo tg it v
        assign tg env v
        (do let v ← eval elt env; standAt elt.pos; let _ ← yieldOut env v)
        again (.compLoop (gxOne elt tg iter scope pos) 0 it acc env)) := by rfl
theorem gx_turn2a (elt tg iter tg2 iter2 : Expr) (scope : Scope) (pos : Pos) (it acc : Value) (env : Env) : compTurn (gxTwo elt tg iter tg2 iter2 scope pos) 0 it acc env = (do
      standAt iter.pos
      match ← pyNext it with
      | none => pure (.done .next)
      | some v =>
        letOwnedTupleGo tg it v
        assign tg env v
        let x ← eval iter2 env
        standAt iter2.pos
        let x ← foldedSetIterable iter2 env x
        let _ ← runOwn (.compStart (gxTwo elt tg iter tg2 iter2 scope pos) 1 (← holding [x] (pyIter x)) acc env) env
        again (.compLoop (gxTwo elt tg iter tg2 iter2 scope pos) 0 it acc env)) := by rfl
theorem gx_turn2b (elt tg iter tg2 iter2 : Expr) (scope : Scope) (pos : Pos) (it acc : Value) (env : Env) : compTurn (gxTwo elt tg iter tg2 iter2 scope pos) 1 it acc env = (do
      standAt iter2.pos
      match ← pyNext it with
      | none => pure (.done .next)
      | some v =>
        letOwnedTupleGo tg2 it v
        assign tg2 env v
        (do let v ← eval elt env; standAt elt.pos; let _ ← yieldOut env v)
        again (.compLoop (gxTwo elt tg iter tg2 iter2 scope pos) 1 it acc env)) := by rfl
/-- a turn of the iterator is ahead -/
def gxS (Z : Cx) (pn : List (Addr × Obj)) (σw : L2.St) (fp : List Addr) (tn : Nat → Heap → Prop) (C : Nat → Hp → Prop) (i : Nat) : Slp := fun s => ∃ H, Inv Z pn σw H s ∧ tn i s.heap ∧ (∀ b ∈ fp, H b = none) ∧ C i H
section
variable {Z : Cx} {pn : List (Addr × Obj)} {σw : L2.St} {fp : List Addr} {tn : Nat → Heap → Prop} {C : Nat → Hp → Prop} {n : Nat} {Yd : Nat → V → Slp → Shared → Prop} {Dn : Nat → Slp} {J : It} {g : TG} {te : TE} {vs : List Nat} {a : Addr} {go : Obj}
theorem gxS_ok (hpn : (a, go) ∈ Z.pn ++ pn) (i : Nat) : SlOk a go (gxS Z pn σw fp tn C i) where
  lim := fun s ⟨H, I, _⟩ => I.nolimit
  at_ := fun s ⟨H, I, _⟩ => (I.pin _ hpn).1
  bare := fun s ⟨H, I, _⟩ => I.bare
  gens := fun s G ⟨H, I, r⟩ hG => ⟨H, Inv.gens I hG, r⟩
def FpAll (Z : Cx) (pn : List (Addr × Obj)) (fp : List Addr) : Prop := ∀ {σ' : L2.St} {H' : Hp} {s' : Shared}, Inv Z pn σ' H' s' → (∀ b ∈ fp, H' b = none) → ∀ b ∈ fp, FpOk Z pn H' b
/-- a loop over the last clause: fs what runs around it -/
theorem gx_last {A : Around} {e elt tg iter : Expr} {d : Nat} {it : Addr} {fs : List Frame} {YH : Nat → V → Hp → Prop} {fu : Nat → Nat → Prop} (hc : Z.calm = true) (hA : Z.A = A.over (gxC e d it Z.env) fs) (hx : ∀ e s, ¬ Z.xe e s) (hco : Z.env.scope.isCoroutine = false) (hpn : (a, go) ∈ Z.pn ++ pn)
    (hfs : splitAtGen fs = none) (hfg : fs.any Frame.guarded = false)
    (hden : ∃ (Hh : Value → Sem Fin) (gd : Bool → Bool) (lv : List Value → List Value), gd false = false ∧ (model Z.prog Z.w).den (gxC e d it Z.env) = ((do
      standAt iter.pos
      match ← pyNext (.ref it) with
      | none => pure (.done .next)
      | some v =>
        letOwnedTupleGo tg (.ref it) v
        assign tg Z.env v
        (do let v ← eval elt Z.env; standAt elt.pos; let _ ← yieldOut Z.env v)
        again (gxC e d it Z.env) : Sem Fin).wrap .pure Hh gd lv))
    (T : Turn Z.prog Z.w Z.K tg J fp it tn) (pg : PG Z tg g) (pe : PE Z elt te) (hst : FpAll Z pn fp) (hw : ∀ {σ2 : L2.St}, wipe σ2 vs = σw → σw.length = σ2.length)
    (F : Nat → Nat) (step : ∀ i H, C i H → (i = n ∧ J.stop i H) ∨ (i < n ∧ 0 < F i ∧ F (i + 1) + 1 = F i ∧ J.go i H ∧ ∀ x H1, J.yld i H x H1 → g x σw H1 fun σ2 H2 => wipe σ2 vs = σw ∧ te σ2 H2 fun y H3 => YH i y H3))
    (hY : ∀ i y H s, i < n → Inv Z pn σw H s → tn (i + 1) s.heap → (∀ b ∈ fp, H b = none) → YH i y H → Yd (F (i + 1)) y (gxS Z pn σw fp tn C (i + 1)) s)
    (hD : ∀ s0 s H, Inv Z pn σw H s → C n H → (∀ b ∈ fp, H b = none) → Seg (model Z.prog Z.w) A (fun m a r b => r = .ok .next ∧ gxR Dn m a b) (gxY a go Yd) (F n) s0 (gxC e d it Z.env) (.pure (.done .next)) fs s) :
    ∀ (k i : Nat) (s0 s : Shared), n - i = k → gxS Z pn σw fp tn C i s → Seg (model Z.prog Z.w) A (fun m a r b => r = .ok .next ∧ gxR Dn m a b) (gxY a go Yd) (F i) s0 (gxC e d it Z.env) ((model Z.prog Z.w).den (gxC e d it Z.env)) fs s := by
  obtain ⟨Hh, gd, lv, hgd, hden⟩ := hden
  intro k
  induction k with
  | zero =>
    rintro i s0 s hk ⟨H, I, st, nf, c⟩
    rcases step i H c with ⟨e1, stop⟩ | ⟨lt, _⟩
    · subst e1
      have td := T.done Z rfl rfl rfl hc i pn s σw H (fun _ _ => False) I (hst I nf) st stop
      rw [hA] at td
      rw [hden]
      refine seg_bind_wrap (wpAny_standAt (seg_bind_wrap (wpAny_mono td (fun r s1 ⟨er, I1⟩ => ?_) fun _ _ z => z.elim)))
      subst er
      exact hD s0 s1 H I1 c nf
    · omega
  | succ k ih =>
    rintro i s0 s hk ⟨H, I, st, nf, c⟩
    rcases step i H c with ⟨e1, _⟩ | ⟨lt, f0, f1, go, stp⟩
    · omega
    have ti := T.item Z rfl rfl rfl hc i pn s σw H (fun _ _ => False) I (hst I nf) st go
    rw [hA] at ti
    rw [hden]
    refine seg_bind_wrap (wpAny_standAt (seg_bind_wrap (wpAny_mono ti (fun r s1 ⟨u, er, h1⟩ => ?_) fun _ _ z => z.elim)))
    subst er
    refine seg_bind_wrap (wpAny_mono h1 (fun _ s2 ⟨x, H2, I2, r2, y2, st2, n2⟩ => ?_) fun _ _ z => z.elim)
    have I2p := I2.pinned (hst I2 n2) (T.obj _ _ st2)
    have hg := pg.run _ s2 _ H2 x u _ I2p r2 (stp x H2 y2)
    rw [hA] at hg
    refine seg_bind_wrap (wpAny_mono hg (fun _ s3 ⟨σ3, H3, I3, hw3, q3⟩ => ?_) fun _ _ z => (hx _ _ z).elim)
    have hy : ∀ v, yieldOut Z.env v = yieldValue v := fun v => by
      simp only [yieldOut, hco, if_neg Bool.false_ne_true]
    simp only [hy]
    rw [Sem.bind_eq_wrap', Sem.bind_eq_wrap', Sem.wrap_wrap, Sem.wrap_wrap]
    have he := pe.run _ s3 σ3 H3 _ I3 q3
    rw [hA] at he
    refine seg_wrap (wpAny_mono he (fun v s4 ⟨y, H4, I4, r4, q4⟩ => ?_) fun _ _ z => (hx _ _ z).elim)
    have pin : ∀ b ∈ fp, ∀ o, s2.heap.get? b = some o → s4.heap.get? b = some o ∧ H4 b = none := fun b hb o e =>
      let z := I4.pin (b, o) (List.mem_append_right _ (List.mem_append_right _ (mem_pinsAt hb e)))
      ⟨z.1, z.2.1⟩
    have I5 : Inv Z pn σw H4 s4 := (I4.unpinned (pins := pn)).weak (hw hw3) (fun j v e => by
      rw [← hw3] at e
      exact (wipe_some e).1)
    have nf4 : ∀ b ∈ fp, H4 b = none := fun b hb => by
      obtain ⟨o, e, _⟩ := T.obj _ _ st2 b hb
      exact (pin b hb o e).2
    have st4 : tn (i + 1) s4.heap := T.keep _ _ _ st2 fun b hb o e => (pin b hb o e).1
    rw [← f1]
    refine seg_at (seg_yield hfs (by exact hgd) hfg ⟨y, _, r4, gxS_ok hpn (i + 1), I5.bare, hY i y H4 s4 lt I5 st4 nf4 q4, fun s5 h5 => ?_⟩)
    exact seg_again rfl (ih (i + 1) s5 s5 (by omega) h5)
/-- ahead of the loop -/
theorem gx_begin {A : Around} {R : GenEnd} {Y : Protocol} {e : Expr} {d m : Nat} {it : Addr} {fs : List Frame} {ce : Env} {s0 s : Shared} {P : Program} {w : World} (hcl : ((clausesOf e)[d]?).elim false (·.is_async != 0) = false)
    (hden : (model P w).den (gx0 e d it ce) = (compStart e d (.ref it) .none ce).onRaise (leaving ce) ∨ ∃ Hh, (model P w).den (gx0 e d it ce) = (compStart e d (.ref it) .none ce).onRaise Hh)
    (T : ∀ (A' : Around) (Q : Value → Shared → Prop) (E : Value → Shared → Prop), Q (.ref it) s → wpAny (model P w) A' (pyIter (.ref it)) Q E s) (h : Seg (model P w) A R Y m s0 (gxC e d it ce) ((model P w).den (gxC e d it ce)) fs s) :
    Seg (model P w) A R Y m s0 (gx0 e d it ce) ((model P w).den (gx0 e d it ce)) fs s := by
  have key : ∀ Hh, Seg (model P w) A R Y m s0 (gx0 e d it ce) ((compStart e d (.ref it) .none ce).onRaise Hh) fs s := fun Hh => by
    unfold compStart
    rw [Sem.onRaise_eq_wrap, hcl]
    refine seg_bind_wrap (m := ask) (wpAny_askSetting ?_)
    split
    · exact seg_again rfl h
    · refine seg_bind_wrap (wpAny_rule ?_)
      split
      · exact seg_bind_wrap (wpAny_standAt (seg_bind_wrap (T _ _ _ (seg_again rfl h))))
      · exact seg_bind_wrap (T _ _ _ (seg_again rfl h))
  rcases hden with z | ⟨Hh, z⟩
  · rw [z]
    exact key _
  · rw [z]
    exact key _
end
end Sk


set_option Elab.async false
set_option linter.all false
set_option maxRecDepth 100000
set_option maxHeartbeats 4100000
/-! Sk31: two clauses. -/
namespace Sk
open PySem L2 Evl PyProof.Rows
section
variable {Z : Cx} {pn : List (Addr × Obj)} {σw : L2.St} {fp : List Addr} {tn : Nat → Heap → Prop} {n : Nat} {Yd : Nat → V → Slp → Shared → Prop} {Dn : Nat → Slp} {J : It} {g g2 : TG} {te : TE} {vs vs2 : List Nat} {a : Addr} {go : Obj} {wi2 : TI}
theorem gx_seg1 {A : Around} {elt tg iter : Expr} {scope : Scope} {pos : Pos} {it : Addr} {C : Nat → Hp → Prop} {YH : Nat → V → Hp → Prop} (hc : Z.calm = true) (hA : Z.A = A.over (gxC (gxOne elt tg iter scope pos) 0 it Z.env) []) (hx : ∀ e s, ¬ Z.xe e s) (hco : Z.env.scope.isCoroutine = false) (hpn : (a, go) ∈ Z.pn ++ pn)
    (T : Turn Z.prog Z.w Z.K tg J fp it tn) (pg : PG Z tg g) (pe : PE Z elt te) (hst : FpAll Z pn fp) (hw : ∀ {σ2 : L2.St}, wipe σ2 vs = σw → σw.length = σ2.length)
    (step : ∀ i H, C i H → (i = n ∧ J.stop i H) ∨ (i < n ∧ J.go i H ∧ ∀ x H1, J.yld i H x H1 → g x σw H1 fun σ2 H2 => wipe σ2 vs = σw ∧ te σ2 H2 fun y H3 => YH i y H3))
    (hY : ∀ i y H s, i < n → Inv Z pn σw H s → tn (i + 1) s.heap → (∀ b ∈ fp, H b = none) → YH i y H → Yd (n + 1 - (i + 1)) y (gxS Z pn σw fp tn C (i + 1)) s) (hD : ∀ s H, Inv Z pn σw H s → C n H → Dn (n + 1 - n) s) (s0 s : Shared) (h : gxS Z pn σw fp tn C 0 s) :
    Seg (model Z.prog Z.w) A (fun m a r b => r = .ok .next ∧ gxR Dn m a b) (gxY a go Yd) (n + 1) s0 (gx0 (gxOne elt tg iter scope pos) 0 it Z.env) ((model Z.prog Z.w).den (gx0 (gxOne elt tg iter scope pos) 0 it Z.env)) [] s := by
  have lp := gx_last (d := 0) (fs := []) (C := C) (n := n) (Yd := Yd) (Dn := Dn) (YH := YH) (fu := fun _ _ => True) (vs := vs) hc hA hx hco hpn rfl rfl ⟨_, id, id, rfl, by
    show (compTurn (gxOne elt tg iter scope pos) 0 (.ref it) .none Z.env).onRaise (leaving Z.env) = _
    rw [gx_turn1, Sem.onRaise_eq_wrap]⟩ T pg pe hst hw (fun i => n + 1 - i) (fun i H c => (step i H c).imp (fun z => z) fun ⟨lt, z⟩ => ⟨lt, by omega, by omega, z⟩) hY (fun s0 s H I c _ => by
      exact seg_end (.ok .next) ⟨rfl, I.bare, hD s H I c⟩) (n - 0) 0 s0 s rfl h
  obtain ⟨H, I, st, _⟩ := h
  exact gx_begin rfl (.inl rfl) (fun A' Q E q => T.self A' 0 s Q E st q) lp
/-- what stands outside -/
def gxS2 (Z : Cx) (pn : List (Addr × Obj)) (σw : L2.St) (fp : List Addr) (tn : Nat → Heap → Prop) (C : Nat → Nat → Hp → Prop) (i f : Nat) : Slp := gxS Z pn σw fp tn (fun i H => C i f H) i
theorem gx_seg2 {A : Around} {elt tg iter tg2 iter2 : Expr} {scope : Scope} {pos : Pos} {it : Addr} {C : Nat → Nat → Hp → Prop} {YH : Nat → V → Hp → (Hp → Prop) → Prop} (hc : Z.calm = true) (hA : Z.A = A.over (gxC (gxTwo elt tg iter tg2 iter2 scope pos) 0 it Z.env) []) (hx : ∀ e s, ¬ Z.xe e s) (hco : Z.env.scope.isCoroutine = false) (hpn : (a, go) ∈ Z.pn ++ pn)
    (T : Turn Z.prog Z.w Z.K tg J fp it tn) (pg : PG Z tg g) (pi : PI Z tg2 iter2 wi2) (pg2 : PG Z tg2 g2) (pe : PE Z elt te) (hst : FpAll Z pn fp) (hw : ∀ {σ2 : L2.St}, wipe σ2 vs = σw → σw.length = σ2.length) (hvs : ∀ j ∈ vs2, j ∈ vs) (hs2 : ∀ x, foldedSetIterable iter2 Z.env x = pure x)
    (step : ∀ i f H, C i f H → (i = n ∧ J.stop i H) ∨ (i < n ∧ J.go i H ∧ ∀ x H1, J.yld i H x H1 → g x σw H1 fun σ2 H2 => wipe σ2 vs = σw ∧ wi2 σ2 H2 fun J2 H3 => ∃ (n2 : Nat) (C2 : Nat → Hp → Prop), n2 ≤ f ∧ C2 0 H3 ∧ (∀ H, C2 n2 H → C (i + 1) (f - n2) H) ∧
      ∀ j H, C2 j H → (j = n2 ∧ J2.stop j H) ∨ (j < n2 ∧ J2.go j H ∧ ∀ y H1, J2.yld j H y H1 → g2 y (wipe σ2 vs2) H1 fun σ3 H4 => wipe σ3 vs2 = wipe σ2 vs2 ∧ te σ3 H4 fun v H5 => YH (f + 1 - (j + 1)) v H5 (C2 (j + 1)))))
    (hY : ∀ (P1 : List (Addr × Obj)) (σ2 : L2.St) (fp2 : List Addr) (tn2 : Nat → Heap → Prop) (C2 : Nat → Hp → Prop) j m y H s, Inv Z P1 σ2 H s → tn2 (j + 1) s.heap → (∀ b ∈ fp2, H b = none) → YH m y H (C2 (j + 1)) → Yd m y (gxS Z P1 σ2 fp2 tn2 C2 (j + 1)) s) (hD : ∀ s f H, Inv Z pn σw H s → C n f H → Dn (f + 1) s) :
    ∀ (k i f : Nat) (s0 s : Shared), n - i = k → gxS2 Z pn σw fp tn C i f s →
      Seg (model Z.prog Z.w) A (fun m a r b => r = .ok .next ∧ gxR Dn m a b) (gxY a go Yd) (f + 1) s0 (gxC (gxTwo elt tg iter tg2 iter2 scope pos) 0 it Z.env) ((model Z.prog Z.w).den (gxC (gxTwo elt tg iter tg2 iter2 scope pos) 0 it Z.env)) [] s := by
  intro k
  induction k with
  | zero =>
    rintro i f s0 s hk ⟨H, I, st, nf, c⟩
    rcases step i f H c with ⟨e1, stop⟩ | ⟨lt, _⟩
    · subst e1
      have td := T.done Z rfl rfl rfl hc i pn s σw H (fun _ _ => False) I (hst I nf) st stop
      rw [hA] at td
      show Seg (model Z.prog Z.w) A _ _ _ s0 _ ((compTurn (gxTwo elt tg iter tg2 iter2 scope pos) 0 (.ref it) .none Z.env).onRaise (leaving Z.env)) [] s
      rw [gx_turn2a, Sem.onRaise_eq_wrap]
      refine seg_bind_wrap (wpAny_standAt (seg_bind_wrap (wpAny_mono td (fun r s1 ⟨er, I1⟩ => ?_) fun _ _ z => z.elim)))
      subst er
      exact seg_end (.ok .next) ⟨rfl, I1.bare, hD s1 f H I1 c⟩
    · omega
  | succ k ih =>
    rintro i f s0 s hk ⟨H, I, st, nf, c⟩
    rcases step i f H c with ⟨e1, _⟩ | ⟨lt, go', stp⟩
    · omega
    have ti := T.item Z rfl rfl rfl hc i pn s σw H (fun _ _ => False) I (hst I nf) st go'
    rw [hA] at ti
    show Seg (model Z.prog Z.w) A _ _ _ s0 _ ((compTurn (gxTwo elt tg iter tg2 iter2 scope pos) 0 (.ref it) .none Z.env).onRaise (leaving Z.env)) [] s
    rw [gx_turn2a, Sem.onRaise_eq_wrap]
    refine seg_bind_wrap (wpAny_standAt (seg_bind_wrap (wpAny_mono ti (fun r s1 ⟨u, er, h1⟩ => ?_) fun _ _ z => z.elim)))
    subst er
    refine seg_bind_wrap (wpAny_mono h1 (fun _ s2 ⟨x, H2, I2, r2, y2, st2, n2⟩ => ?_) fun _ _ z => z.elim)
    have I2p := I2.pinned (hst I2 n2) (T.obj _ _ st2)
    have hg := pg.run _ s2 _ H2 x u _ I2p r2 (stp x H2 y2)
    rw [hA] at hg
    refine seg_bind_wrap (wpAny_mono hg (fun _ s3 ⟨σ3, H3, I3, hw3, q3⟩ => ?_) fun _ _ z => (hx _ _ z).elim)
    have hi2 := pi.run _ s3 σ3 H3 _ I3 q3
    rw [hA] at hi2
    refine seg_bind_wrap (wpAny_mono hi2 (fun xv s4 h4 => ?_) fun _ _ z => (hx _ _ z).elim)
    refine seg_bind_wrap (wpAny_standAt (seg_bind_wrap (wpAny_of_eq (hs2 xv) (seg_bind_wrap (wpAny_holding (wpAny_mono h4 (fun itv s5 ⟨it2, fp2, tn2, J2, H5, e2, I5, T2, st5, f5, m2, C2, hm2, c20, cEnd, step2⟩ => ?_) fun _ _ z => (hx _ _ z).elim))))))
    subst e2
    refine seg_call fun p => ?_
    generalize hP1 : pn ++ pinsAt fp s2.heap = P1 at I5 f5
    have I5 : Inv Z P1 σ3 H5 s5 := I5
    have f5 : ∀ b ∈ fp2, FpOk Z P1 H5 b := f5
    have hpn1 : (a, go) ∈ Z.pn ++ P1 := by
      rw [← hP1]
      rcases List.mem_append.mp hpn with z | z
      · exact List.mem_append_left _ z
      · exact List.mem_append_right _ (List.mem_append_left _ z)
    have lenw : (wipe σ3 vs2).length = σ3.length := wipe_length _ _
    have I6 : Inv Z P1 (wipe σ3 vs2) H5 s5 := I5.weak lenw (fun j v e => (wipe_some e).1)
    have st1 : gxS Z P1 (wipe σ3 vs2) fp2 tn2 C2 0 s5 := ⟨H5, I6, st5, fun b hb => (f5 b hb).1, c20⟩
    refine gx_begin rfl (.inr ⟨_, rfl⟩) (fun A' Q E q => T2.self A' 0 s5 Q E st5 q) ?_
    refine gx_last (A := A) (e := gxTwo elt tg iter tg2 iter2 scope pos) (elt := elt) (tg := tg2) (iter := iter2) (d := 1) (it := it2) (pn := P1) (σw := wipe σ3 vs2) (fp := fp2) (tn := tn2) (C := C2) (n := m2) (Yd := Yd) (Dn := Dn) (J := J2) (g := g2) (te := te) (vs := vs2) (a := a) (go := go) (YH := fun j v H5 => YH (f + 1 - (j + 1)) v H5 (C2 (j + 1))) (fu := fun _ _ => True) hc (by rw [hA]; rfl) hx hco hpn1 rfl rfl ⟨_, id, id, rfl, by
        show (compTurn (gxTwo elt tg iter tg2 iter2 scope pos) 1 (.ref it2) .none Z.env).onRaise _ = _
        rw [gx_turn2b, Sem.onRaise_eq_wrap]⟩ T2 pg2 pe (fun {σ' H' s'} I' hn b hb => ⟨hn b hb, (f5 b hb).2⟩) (fun {σ2} e => by rw [← e, wipe_length]) (fun j => f + 1 - j) (fun j H c => (step2 j H c).imp (fun z => z) fun ⟨lt, z⟩ => ⟨lt, by omega, by omega, z⟩)
        (fun j y H s _ I st nf yh => hY P1 (wipe σ3 vs2) fp2 tn2 C2 j _ y H s I st nf yh) (fun s0 s6 H6 I7 c6 nf6 => ?_) (m2 - 0) 0 s0 s5 rfl st1
    · have pin : ∀ b ∈ fp, ∀ o, s2.heap.get? b = some o → s6.heap.get? b = some o ∧ H6 b = none := fun b hb o e =>
        let z := I7.pin (b, o) (List.mem_append_right _ (by rw [← hP1]; exact List.mem_append_right _ (mem_pinsAt hb e)))
        ⟨z.1, z.2.1⟩
      rw [← hP1] at I7
      have I8 : Inv Z pn σw H6 s6 := (I7.unpinned (pins := pn)).weak (by rw [hw hw3, lenw]) (fun j v e => by
        have e1 := e
        rw [← hw3] at e1
        obtain ⟨e2, e3⟩ := wipe_some e1
        rw [wipe_at, if_neg fun z => e3 (hvs j z)]
        exact e2)
      refine seg_leaf (.ok .next) ?_
      rw [show f + 1 - m2 = (f - m2) + 1 by omega]
      exact seg_again rfl (ih (i + 1) (f - m2) _ s6 (by omega) ⟨H6, I8, T.keep _ _ _ st2 fun b hb o e => (pin b hb o e).1, fun b hb => by
        obtain ⟨o, e, _⟩ := T.obj _ _ st2 b hb
        exact (pin b hb o e).2, cEnd H6 c6⟩)
end
end Sk


set_option Elab.async false
set_option linter.all false
set_option maxRecDepth 100000
set_option maxHeartbeats 4100000
/-! Sk32: a generator expression is made. -/
namespace Sk
open PySem L2 Evl PyProof.Rows GenW
open GxR (TabB TabG Tabbed inv_tab)
section
variable {X : Cx} {pins : List (Addr × Obj)} {σ : L2.St} {H : Hp} {s : Shared}
abbrev gxEnv (X : Cx) (scope : Scope) (s4 : Shared) (code : Value) : Env := genEnv scope (cloFrom X.env.cells scope.names []) s4.heap.objs.size code builtinsNs X.env
abbrev gxA (X : Cx) (e : Expr) (it : Addr) (ce : Env) : Around := X.A.in1.in1.over (gxC e 0 it ce) []
/-- the generator at a is made -/
structure GxMade (X : Cx) (pins : List (Addr × Obj)) (σ : L2.St) (own : List (Str × Nat)) (e tg : Expr) (scope : Scope) (J : It) (H2 : Hp) (s5 : Shared) where
  s4 : Shared
  code : Value
  fp : List Addr
  tn : Nat → Heap → Prop
  it : Addr
  a : Addr
  gi : Nat
  go : Obj
  I4 : Inv X pins σ H2 s4
  T : Turn X.prog X.w X.K tg J fp it tn
  st : tn 0 s5.heap
  nf : ∀ b ∈ fp, FpOk X pins H2 b ∧ b < s4.heap.objs.size
  ga : s4.heap.objs.size < a
  gen : ∀ h : Heap, h.get? a = some go → h.IsGen a gi
  gs : s5.gens[gi]? = some (.fresh (gx0 e 0 it (gxEnv X scope s4 code)))
  I5 : Inv (gxX X (gxA X e it (gxEnv X scope s4 code)) s4 H2 (gxEnv X scope s4 code) fp) [(a, go)] (wipe σ (own.map (·.2))) H2 s5
theorem gx_eval (elt tg iter : Expr) (cs : List Comprehension) (scope : Scope) (pos : Pos) (env : Env) (hco : scope.isCoroutine = false) : eval (.GeneratorExp elt (⟨tg, iter, [], 0⟩ :: cs) scope pos) env = (do
      let xv ← eval iter env
      standAt iter.pos
      let xw ← genFold iter env xv
      let itv ← holding [xw] (pyIter xw)
      enterFrame
      let cls ← closureFor scope env
      let cod ← genexprCode env pos (env.qual ++ "<genexpr>") scope
      let blt ← builtinsFor env.globals env.builtins
      let ce ← newFunctionEnv scope env.globals cls [(".0", itv)] (env.qual ++ "<genexpr>.") none cod none blt
      newGenerator (.compStart (.GeneratorExp elt (⟨tg, iter, [], 0⟩ :: cs) scope pos) 0 itv .none ce) "<genexpr>" (env.qual ++ "<genexpr>")) := by
  rw [arm_eval_GeneratorExp]
  simp only [hco, if_neg Bool.false_ne_true]
  cases iter <;> rfl
theorem dot_bind (it : Value) : (fun y : Str => ([((".0" : Str), it)] : List (Str × Value)).reverse.lookup y) = fun y : Str => if y = (".0" : Str) then some it else none := funext fun y => by
  by_cases hy : y = ".0"
  · subst hy
    simp
  · have z : (y == (".0" : Str)) = false := by simpa using hy
    simp [List.lookup, z, hy]
/-- made: its first iterator by hi -/
theorem gx_new {M : Model} {A : Around} {E : Value → Shared → Prop} {s : Shared} {env : Env} {elt tg iter : Expr} {cs : List Comprehension} {scope : Scope} {cl : List (Str × Addr)} {pos : Pos} {Q : Value → Shared → Prop} (hco : scope.isCoroutine = false) (hclos : closureFor scope env = pure cl) (hcell : ∀ y ∈ scope.names, y.2 ≠ .cell) (h0 : scope.names.lookup (".0" : Str) = some NameKind.local) (hkind : scope.kind = .function) (hroom : A.depth < recursionLimit)
    (h : wpAny M A (eval iter env) (fun xv s1 => wpAny M A (pyIter xv) (fun it s2 => s2.heap.NoLimit ∧ wpAny M A (genexprCode env pos (env.qual ++ "<genexpr>") scope) (fun code s3 => wpAny M A (builtinsFor env.globals env.builtins) (fun bi s4 =>
      ∀ h', h'.Ns s4.heap.objs.size (fun y => if y = ".0" then some it else none) → Heap.SameBut s4.heap.objs.size (s4.heap.push { cls := .type "frame", data := .dict #[] }) h' →
        Q (.ref h'.objs.size) { s4 with gens := s4.gens.push (.fresh (.compStart (.GeneratorExp elt (⟨tg, iter, [], 0⟩ :: cs) scope pos) 0 it .none (genEnv scope cl s4.heap.objs.size code bi env))), toks := s4.toks + 1 + 1 + 1, heap := h'.push { cls := .type "generator", data := .fields #[.int s4.gens.size 0, .str "<genexpr>" (s4.toks + 1), .str (env.qual ++ "<genexpr>") (s4.toks + 1 + 1)] } }) E s3) E s2) E s1) E s)
    (hs : ∀ x, genFold iter env x = pure x) : wpAny M A (eval (.GeneratorExp elt (⟨tg, iter, [], 0⟩ :: cs) scope pos) env) Q E s := by
  rw [gx_eval _ _ _ _ _ _ _ hco, hclos]
  refine wpAny_bind (wpAny_mono h (fun xv s1 h1 => wpAny_bind (wpAny_standAt (wpAny_bind (wpAny_of_eq (hs xv) (wpAny_bind (wpAny_holding (wpAny_mono h1 (fun it s2 h2 => ?_) fun _ _ e => e))))))) fun _ _ e => e)
  refine wpAny_bind (wpAny_enterFrame h2.1 hroom (wpAny_bind (wpAny_pure (wpAny_bind (wpAny_mono h2.2 (fun code s3 h3 => wpAny_bind (wpAny_mono h3 (fun bi s4 h4 => ?_) fun _ _ e => e)) fun _ _ e => e)))))
  have hb : ∀ y ∈ ([((".0" : Str), it)] : List (Str × Value)), scope.names.lookup y.1 = some NameKind.local := fun y hy => by
    rw [List.mem_singleton.mp hy]
    exact h0
  refine wpAny_bind (wpAny_newFunctionEnv hcell hb (fun h' hn hs' => ?_) hkind)
  rw [dot_bind] at hn
  simp only [newGenerator, newFields]
  exact wpAny_bind (wpAny_newGen (wpAny_bind (wpAny_mkText (wpAny_bind (wpAny_mkText (wpAny_newObj_type (h4 h' hn hs') (by size_fits)))))))
theorem gx_make {c P : Addr} {elt tg iter : Expr} {cs : List Comprehension} {gpos : Pos} {scope : Scope} {own : List (Str × Nat)} {wi : TI} {k : Nat} {Q' : Value → Shared → Prop} {R : It → Hp → Prop}
    (hr : Room k X.A) (TB : TabB X.base X.mg c P) (hcode : X.env.code = .ref c) (ok : GxOk X.N X.env.scope scope own) (hN : X.N.Nodup) (hc : X.calm = true) (hi : PI X tg iter wi) (hs : ∀ v, genFold iter X.env v = pure v) (I : Inv X pins σ H s)
    (h : wi σ H fun J H1 => TabG H1 P ∧ ∀ H2, Tabbed P H1 H2 → R J H2)
    (hQ : ∀ (J : It) (H2 : Hp) (s5 : Shared) (M : GxMade X pins σ own (.GeneratorExp elt (⟨tg, iter, [], 0⟩ :: cs) scope gpos) tg scope J H2 s5), R J H2 → Q' (.ref M.a) s5) :
    wpAny (model X.prog X.w) X.A (eval (.GeneratorExp elt (⟨tg, iter, [], 0⟩ :: cs) scope gpos) X.env) Q' X.xe s := by
  generalize he : (.GeneratorExp elt (⟨tg, iter, [], 0⟩ :: cs) scope gpos : Expr) = e at hQ
  have hfree : ∀ y ∈ scope.names, y.2 = .free → ∃ c, X.env.cells.lookup y.1 = some c := fun y hy e => (ok.blk.free y hy e).elim (fun k => I.ok.has _ (.inl k)) (fun k => I.ok.has _ (.inr k))
  rw [← he]
  refine gx_new ok.co (closure_ok hfree) ok.cell ok.dot ok.blk.kind hr.depth ?_ hs
  rw [he]
  refine thn (hi.run pins s σ H _ I h) fun xv s1 h1 => thn h1 fun itv s2 ⟨it, fp, tn, J, H1, eit, I1, T, st, f1, ⟨ps, hP, ht⟩, q1⟩ => ?_
  subst eit
  have hPs : s2.heap.get? P = some { cls := .none, data := .fields ps } := I1.hok P _ hP
  have cd : PySem.W.CodeHd s2.heap c P := TB.code.keeps fun b u e => I1.bk b u e
  have fsz : ∀ b ∈ fp, b < s2.heap.objs.size := fun b hb => let ⟨_, e, _⟩ := T.obj _ _ st b hb; Heap.lt_size e
  have fne : ∀ b ∈ fp, b ≠ P := fun b hb z => by
    have := (f1 b hb).1
    rw [z, hP] at this
    cases this
  have cont : ∀ (code : Value) (h3 : Heap) (tk : Nat) (more : Array Value), Heap.ExtBut P s2.heap h3 → s2.heap.objs.size ≤ h3.objs.size → h3.get? P = some { cls := .none, data := .fields (ps ++ more) } → TriplesOk (ps ++ more).toList →
      wpAny (model X.prog X.w) X.A (builtinsFor X.env.globals X.env.builtins) (fun bi s4 => ∀ h', h'.Ns s4.heap.objs.size (fun y => if y = ".0" then some (.ref it) else none) → Heap.SameBut s4.heap.objs.size (s4.heap.push { cls := .type "frame", data := .dict #[] }) h' →
        Q' (.ref h'.objs.size) { s4 with
          gens := s4.gens.push (.fresh (.compStart e 0 (.ref it) .none (genEnv scope (cloFrom X.env.cells scope.names []) s4.heap.objs.size code bi X.env))), toks := s4.toks + 1 + 1 + 1,
          heap := h'.push { cls := .type "generator", data := .fields #[.int s4.gens.size 0, .str "<genexpr>" (s4.toks + 1), .str (X.env.qual ++ "<genexpr>") (s4.toks + 1 + 1)] } }) X.xe { s2 with heap := h3, toks := tk } := by
    intro code h3 tk more hx hsz hP3 ht3
    obtain ⟨bm, ob, e1, e2, e3, e4, e5, e6, e7, e8⟩ := TB.bm
    have keep3 : ∀ b u, b ≠ P → s2.heap.get? b = some u → h3.get? b = some u := fun b u hb e => hx b u hb e
    have I3 : Inv X pins σ (upd H1 P (.tbl (ps ++ more))) { s2 with heap := h3, toks := tk } := inv_tab (more := more) (h' := h3) (g' := s2.gens) (d' := s2.drawn) (t' := tk) I1 hP keep3 hP3 I1.bare
    refine wpAny_builtinsFor (m := X.mg) (by rw [I1.ok.glob]; exact (I1.mod.glob.keeps I1.bk).extBut hx TB.gP) e1 e2 (keep3 _ _ e4 (I1.bk _ _ e5)) e6 e7 e8 ?_
    intro h' hn' hs'
    generalize hs4 : ({ s2 with heap := h3, toks := tk } : Shared) = s4 at I3 hn' hs' ⊢
    have e4h : s4.heap = h3 := by rw [← hs4]
    have hz : h'.objs.size = s4.heap.objs.size + 1 := by rw [hs'.1, Heap.size_push]
    have kp : ∀ b o, s4.heap.get? b = some o → h'.get? b = some o := fun b o e => hs'.extBut b o (Nat.ne_of_lt (Heap.lt_size e)) (Heap.get?_push_of_some _ e)
    generalize hgo : ({ cls := .type "generator", data := .fields #[.int s4.gens.size 0, .str "<genexpr>" (s4.toks + 1), .str (X.env.qual ++ "<genexpr>") (s4.toks + 1 + 1)] } : Obj) = go
    have kp5 : ∀ b o, s4.heap.get? b = some o → (h'.push go).get? b = some o := fun b o e => Heap.get?_push_of_some _ (kp b o e)
    have ha5 : (h'.push go).get? h'.objs.size = some go := Heap.get?_push_size _ (by rw [← hgo]; rfl)
    have nf : ∀ b ∈ fp, FpOk X pins (upd H1 P (.tbl (ps ++ more))) b ∧ b < s4.heap.objs.size := fun b hb => by
      refine ⟨⟨?_, (f1 b hb).2⟩, by rw [e4h]; exact Nat.lt_of_lt_of_le (fsz b hb) hsz⟩
      rw [upd_ne (fne b hb)]
      exact (f1 b hb).1
    have hAf : (gxA X e it (gxEnv X scope s4 code)).frames = some (gxEnv X scope s4 code :: X.stack) := by
      rw [← he]
      show pushEnvs [gxEnv X scope s4 code] (pushEnvs (envsOf []) X.A.frames) = _
      rw [I1.ok.frames]
      rfl
    have I5 := gx_start (A' := gxA X e it (gxEnv X scope s4 code)) (code := code) (h5 := h'.push go) (gs := .fresh (gx0 e 0 it (gxEnv X scope s4 code))) (tk := s4.toks + 1 + 1 + 1) (a := h'.objs.size) (go := go) I3 ok hN nf (fun z => hr.hd) hAf rfl kp5 (hn'.push _) ha5 (by rw [hz]; exact Nat.lt_succ_self _) (by rw [← hgo]; exact fun v q => nomatch q)
    refine hQ J _ _ ⟨s4, code, fp, tn, it, h'.objs.size, s4.gens.size, go, I3, T, ?_, nf, by rw [hz]; exact Nat.lt_succ_self _, fun h e => ⟨go, _, _, e, by rw [← hgo], by rw [← hgo], by rw [← hgo]⟩, ?_, I5⟩ (q1 _ ⟨⟨ps ++ more, upd_same, ht3⟩, fun b hb => upd_ne hb⟩)
    · exact T.keep _ _ _ st fun b hb o e => kp5 b o (by rw [e4h]; exact keep3 b o (fne b hb) e)
    · exact Array.getElem?_push_size ..
  refine ⟨I1.nolimit, ?_⟩
  cases hf : codeAmong gpos ps.toList with
  | none =>
    refine wpAny_genexprCodeX hcode (cd.code hPs ht) (cd.tab hPs) hf fun c' h' tk hx hge hlt hco' _ htab' _ => ?_
    obtain ⟨o1, us, f1', tf, fl, tg', inF, tx, tt, op, _, _, _, _, _, _, _, _, _, htr, _⟩ := hco'
    exact cont _ h' tk _ hx (Nat.le_trans hge (Nat.le_of_lt hlt)) htab'.2 htr
  | some cv =>
    refine wpAny_genexprCode_hit hcode (cd.code hPs ht) hf ?_
    have := cont cv s2.heap s2.toks #[] (Heap.ExtBut.refl _ _) (Nat.le_refl _) (by simpa using hPs) (by simpa using ht)
    exact this
end
end Sk


set_option Elab.async false
set_option linter.all false
set_option maxRecDepth 100000
set_option maxHeartbeats 4100000
/-! Sk33: any(..), all(..) of a generator expression, as rules. -/
namespace Sk
open PySem L2 Evl PyProof.Rows GenW
open GxR (TabB TabG Tabbed inv_tab)
/-- st: the truth at which it stops -/
def GxWant (J : It) (g : TG) (te : TE) (σw : L2.St) (vs : List Nat) (st : Bool) (Q : VK) (H2 : Hp) : Prop :=
  ∃ (n : Nat) (C : Nat → Hp → Prop), C 0 H2 ∧ ∀ i H, C i H → (i = n ∧ J.stop i H ∧ Q (.bl (!st)) H) ∨ (i < n ∧ J.go i H ∧ ∀ x H1, J.yld i H x H1 → g x σw H1 fun σ2 H2 => wipe σ2 vs = σw ∧ te σ2 H2 fun y H3 => ∃ b, y = .bl b ∧ (b = st → Q (.bl st) H3) ∧ (b = !st → C (i + 1) H3))
def tGx (P : Addr) (wi : TI) (g : TG) (te : TE) (vs : List Nat) (st : Bool) : TE := fun σ H Q => wi σ H fun J H1 => TabG H1 P ∧ ∀ H2, Tabbed P H1 H2 → GxWant J g te (wipe σ vs) vs st Q H2
/-- two clauses -/
def GxWant2 (J : It) (g : TG) (wi2 : TI) (g2 : TG) (te : TE) (σw : L2.St) (vs vs2 : List Nat) (st : Bool) (Q : VK) (H2 : Hp) : Prop :=
  ∃ (n f0 : Nat) (C : Nat → Nat → Hp → Prop), C 0 f0 H2 ∧ ∀ i f H, C i f H → (i = n ∧ J.stop i H ∧ Q (.bl (!st)) H) ∨ (i < n ∧ J.go i H ∧ ∀ x H1, J.yld i H x H1 → g x σw H1 fun σ2 H2 => wipe σ2 vs = σw ∧ wi2 σ2 H2 fun J2 H3 => ∃ (n2 : Nat) (C2 : Nat → Hp → Prop), n2 ≤ f ∧ C2 0 H3 ∧ (∀ H, C2 n2 H → C (i + 1) (f - n2) H) ∧
      ∀ j H, C2 j H → (j = n2 ∧ J2.stop j H) ∨ (j < n2 ∧ J2.go j H ∧ ∀ y H1, J2.yld j H y H1 → g2 y (wipe σ2 vs2) H1 fun σ3 H4 => wipe σ3 vs2 = wipe σ2 vs2 ∧ te σ3 H4 fun v H5 => ∃ b, v = .bl b ∧ (b = st → Q (.bl st) H5) ∧ (b = !st → C2 (j + 1) H5)))
def tGx2 (P : Addr) (wi : TI) (g : TG) (wi2 : TI) (g2 : TG) (te : TE) (vs vs2 : List Nat) (st : Bool) : TE := fun σ H Q => wi σ H fun J H1 => TabG H1 P ∧ ∀ H2, Tabbed P H1 H2 → GxWant2 J g wi2 g2 te (wipe σ vs) vs vs2 st Q H2
section
variable {X : Cx} {pins : List (Addr × Obj)} {σ : L2.St} {H : Hp} {s : Shared}
def gxFin (X : Cx) (pins : List (Addr × Obj)) (σ : L2.St) (Q : VK) (v : V) : Slp := fun s => ∃ H, Inv X pins σ H s ∧ Q v H
def gxYd (X : Cx) (pins : List (Addr × Obj)) (σ : L2.St) (Q : VK) (st : Bool) : Nat → V → Slp → Shared → Prop := fun _ y S s => ∃ b, y = .bl b ∧ (b = st → gxFin X pins σ Q (.bl st) s) ∧ (b = !st → S s)
theorem gxFin_st {Q : VK} {v : V} (s : Shared) (G : Array GenState) (h' : Heap) (h : gxFin X pins σ Q v s) (hG : AllBare G) (hk : ∀ b o, s.heap.get? b = some o → h'.get? b = some o) : gxFin X pins σ Q v { s with gens := G, heap := h' } := by
  obtain ⟨H, I, q⟩ := h
  exact ⟨H, Inv.kept (s := { s with gens := G }) (t' := s.toks) (Inv.gens I hG) hk, q⟩
abbrev gxZ (X : Cx) (e : Expr) (scope : Scope) (s4 : Shared) (H2 : Hp) (code : Value) (fp : List Addr) (it : Addr) : Cx := gxX X (gxA X e it (gxEnv X scope s4 code)) s4 H2 (gxEnv X scope s4 code) fp
theorem gx_room {k : Nat} {e elt : Expr} {cs : List Comprehension} {gpos : Pos} {scope : Scope} {s4 : Shared} {code : Value} {it : Addr} (hr : Room (k + 1) X.A) (he : e = .GeneratorExp elt cs scope gpos) : Room k (gxA X e it (gxEnv X scope s4 code)) := by
  subst he
  refine ⟨hr.hd, ?_, ?_⟩
  · have := hr.dp
    show X.A.depth + 0 + 1 + 3 * k + 5 < recursionLimit
    omega
  · have := hr.un
    show X.A.units + 1 + 1 + 0 + 3 + 16 * k + 200 < cLine
    omega
theorem gx_fpall {e tg : Expr} {scope : Scope} {own : List (Str × Nat)} {J : It} {H2 : Hp} {s5 : Shared} (M : GxMade X pins σ own e tg scope J H2 s5) : FpAll (gxZ X e scope M.s4 H2 M.code M.fp M.it) [(M.a, M.go)] M.fp := fun {σ' H' s'} I' hn b hb =>
  ⟨hn b hb, (I'.ok.exf b hb).1, I'.ok.exfs b hb, .inl hb, fun x c e => (I'.ok.exf b hb).2 x c e, fun p hp z => by
    have e : p = (M.a, M.go) := by
      rcases List.mem_append.mp hp with q | q
      · cases q
      · exact List.mem_singleton.mp q
    subst e
    have h1 := (M.nf b hb).2
    have ga := M.ga
    have h2 : M.a = b := z
    rw [h2] at ga
    exact Nat.lt_irrefl _ (Nat.lt_trans h1 ga)⟩
theorem gx_back {e tg : Expr} {scope : Scope} {own : List (Str × Nat)} {J : It} {H2 : Hp} {s5 : Shared} (M : GxMade X pins σ own e tg scope J H2 s5) {P1 : List (Addr × Obj)} {σ' : L2.St} {H' : Hp} {s' : Shared} (I' : Inv (gxZ X e scope M.s4 H2 M.code M.fp M.it) P1 σ' H' s') : Inv X pins σ H' s' :=
  M.I4.call' (ch := M.fp) I'.os I'.base I'.hok I'.bare fun b hb => ⟨(M.nf b hb).1.2.2.2.1, (M.nf b hb).1.2.1, (M.nf b hb).1.2.2.2.2.1, (M.nf b hb).1.2.2.2.2.2⟩
/-- what the consumer finds at each turn -/
theorem gx_cons {e tg : Expr} {scope : Scope} {own : List (Str × Nat)} {J : It} {H2 : Hp} {s5 : Shared} {st : Bool} {Q : VK} {k n : Nat} {S0 : Slp} (hr : Room (k + 1) X.A) (M : GxMade X pins σ own e tg scope J H2 s5) (so : SlOk M.a M.go S0) (h0 : S0 s5)
    (goes : ∀ s2, S0 s2 → Seg (model X.prog X.w) X.A.in1.in1 (fun m a r b => r = .ok .next ∧ gxR (fun _ => gxFin X pins σ Q (.bl (!st))) m a b) (gxY M.a M.go (gxYd X pins σ Q st)) n s2 (gx0 e 0 M.it (gxEnv X scope M.s4 M.code)) ((model X.prog X.w).den (gx0 e 0 M.it (gxEnv X scope M.s4 M.code))) [] s2) :
    s5.heap.IsGen M.a M.gi ∧ ∃ (Jv : Nat → Shared → Prop) (m : Nat), Jv m s5 ∧ ∀ m s', Jv m s' → wpAny (model X.prog X.w) X.A.in1 (pyNext (.ref M.a)) (fun r s1 => (r = none ∧ gxFin X pins σ Q (.bl (!st)) s1) ∨ ∃ b, r = some (.bool b) ∧ (b = st → gxFin X pins σ Q (.bl st) s1) ∧ (b = !st → ∃ m', m' < m ∧ Jv m' s1)) (fun _ _ => False) s' := by
  refine ⟨M.gen _ (so.at_ _ h0), fun m s' => GxLive X.prog X.w X.A.in1 M.a M.go (gxYd X pins σ Q st) (fun _ => gxFin X pins σ Q (.bl (!st))) M.gi m s', n, ⟨_, S0, M.gs, so, h0, fun s2 h2 => ⟨rfl, goes s2 h2⟩⟩, fun m s' live => ?_⟩
  refine wpAny_mono (gx_next (E := fun _ _ => False) (hr.in1).hd (hr.in1).depth M.gen (fun _ s G h' h hG hk => gxFin_st s G h' h hG hk) (fun _ y S s G so ⟨b, ey, q1, q2⟩ hG => ⟨b, ey, fun z => gxFin_st s G s.heap (q1 z) hG fun _ _ e => e, fun z => so.gens s G (q2 z) hG⟩) live) (fun r s1 hg => ?_) fun _ _ z => z
  rcases hg with ⟨er, dn⟩ | ⟨v, y, S, er, rv, ⟨b, ey, q1, q2⟩, nx⟩
  · exact .inl ⟨er, dn⟩
  · subst ey
    have ev : v = .bool b := rv
    subst ev
    exact .inr ⟨b, er, q1, fun z => let ⟨h1, h2⟩ := nx _ rfl (q2 z); ⟨m - 1, by omega, h2⟩⟩
variable {c P : Addr} {elt tg iter tg2 iter2 : Expr} {gpos pos p : Pos} {scope : Scope} {own : List (Str × Nat)} {wi wi2 : TI} {g g2 : TG} {te : TE} {k : Nat} {st : Bool} {Q : VK} {J : It} {H2 : Hp} {s5 : Shared}
theorem gx_run1 (hr : Room (k + 1) X.A) (hc : X.calm = true) (ok : GxOk X.N X.env.scope scope own) (M : GxMade X pins σ own (gxOne elt tg iter scope gpos) tg scope J H2 s5)
    (pg : ∀ (A' : Around) (s : Shared) (H : Hp) (code : Value) (fp : List Addr), Room k A' → PG (gxX X A' s H (gxEnv X scope s code) fp) tg g) (pe : ∀ (A' : Around) (s : Shared) (H : Hp) (code : Value) (fp : List Addr), Room k A' → PE (gxX X A' s H (gxEnv X scope s code) fp) elt te)
    (hw : GxWant J g te (wipe σ (own.map fun p : Str × Nat => p.2)) (own.map fun p : Str × Nat => p.2) st Q H2) :
    s5.heap.IsGen M.a M.gi ∧ ∃ (Jv : Nat → Shared → Prop) (m : Nat), Jv m s5 ∧ ∀ m s', Jv m s' → wpAny (model X.prog X.w) X.A.in1 (pyNext (.ref M.a)) (fun r s1 => (r = none ∧ gxFin X pins σ Q (.bl (!st)) s1) ∨ ∃ b, r = some (.bool b) ∧ (b = st → gxFin X pins σ Q (.bl st) s1) ∧ (b = !st → ∃ m', m' < m ∧ Jv m' s1)) (fun _ _ => False) s' := by
  obtain ⟨n, C, c0, step⟩ := hw
  have hroom := gx_room (it := M.it) (s4 := M.s4) (code := M.code) hr (e := gxOne elt tg iter scope gpos) rfl
  have hpn : (M.a, M.go) ∈ (gxZ X (gxOne elt tg iter scope gpos) scope M.s4 H2 M.code M.fp M.it).pn ++ [(M.a, M.go)] := List.mem_append_right _ (List.mem_singleton_self _)
  refine gx_cons (n := n + 1) (S0 := gxS (gxZ X (gxOne elt tg iter scope gpos) scope M.s4 H2 M.code M.fp M.it) [(M.a, M.go)] (wipe σ (own.map fun p : Str × Nat => p.2)) M.fp M.tn C 0) hr M (gxS_ok hpn 0) ⟨H2, M.I5, M.st, fun b hb => (M.nf b hb).1.1, c0⟩ fun s2 h2 => ?_
  refine gx_seg1 (Z := gxZ X (gxOne elt tg iter scope gpos) scope M.s4 H2 M.code M.fp M.it) (n := n) (C := fun i H => C i H) (vs := own.map fun p : Str × Nat => p.2) (YH := fun i y H3 => ∃ b, y = .bl b ∧ (b = st → Q (.bl st) H3) ∧ (b = !st → C (i + 1) H3)) hc rfl (fun e s z => z) ok.co hpn M.T (pg _ _ _ _ _ hroom) (pe _ _ _ _ _ hroom) (gx_fpall M) (fun {σ2} e => by rw [← e, wipe_length]) (fun i H ci => (step i H ci).imp (fun ⟨z1, z2, _⟩ => ⟨z1, z2⟩) fun z => z)
    (fun i y H s lt I st' nf ⟨b, ey, q1, q2⟩ => ⟨b, ey, fun z => ⟨H, gx_back M I, q1 z⟩, fun z => ⟨H, I, st', nf, q2 z⟩⟩) (fun s H I ci => ⟨H, gx_back M I, ?_⟩) s2 s2 h2
  rcases step n H ci with ⟨_, _, q⟩ | ⟨lt, _⟩
  · exact q
  · omega
theorem gx_run2 (hr : Room (k + 1) X.A) (hc : X.calm = true) (ok : GxOk X.N X.env.scope scope own) (M : GxMade X pins σ own (gxTwo elt tg iter tg2 iter2 scope gpos) tg scope J H2 s5) {vs2 : List Nat} (hvs : ∀ j ∈ vs2, j ∈ own.map fun p : Str × Nat => p.2) (hs2 : ∀ (s : Shared) (code : Value) x, foldedSetIterable iter2 (gxEnv X scope s code) x = pure x)
    (pg : ∀ (A' : Around) (s : Shared) (H : Hp) (code : Value) (fp : List Addr), Room k A' → PG (gxX X A' s H (gxEnv X scope s code) fp) tg g) (pi : ∀ (A' : Around) (s : Shared) (H : Hp) (code : Value) (fp : List Addr), Room k A' → PI (gxX X A' s H (gxEnv X scope s code) fp) tg2 iter2 wi2)
    (pg2 : ∀ (A' : Around) (s : Shared) (H : Hp) (code : Value) (fp : List Addr), Room k A' → PG (gxX X A' s H (gxEnv X scope s code) fp) tg2 g2) (pe : ∀ (A' : Around) (s : Shared) (H : Hp) (code : Value) (fp : List Addr), Room k A' → PE (gxX X A' s H (gxEnv X scope s code) fp) elt te)
    (hw : GxWant2 J g wi2 g2 te (wipe σ (own.map fun p : Str × Nat => p.2)) (own.map fun p : Str × Nat => p.2) vs2 st Q H2) :
    s5.heap.IsGen M.a M.gi ∧ ∃ (Jv : Nat → Shared → Prop) (m : Nat), Jv m s5 ∧ ∀ m s', Jv m s' → wpAny (model X.prog X.w) X.A.in1 (pyNext (.ref M.a)) (fun r s1 => (r = none ∧ gxFin X pins σ Q (.bl (!st)) s1) ∨ ∃ b, r = some (.bool b) ∧ (b = st → gxFin X pins σ Q (.bl st) s1) ∧ (b = !st → ∃ m', m' < m ∧ Jv m' s1)) (fun _ _ => False) s' := by
  obtain ⟨n, f0, C, c0, step⟩ := hw
  have hroom := gx_room (it := M.it) (s4 := M.s4) (code := M.code) hr (e := gxTwo elt tg iter tg2 iter2 scope gpos) rfl
  have hpn : (M.a, M.go) ∈ (gxZ X (gxTwo elt tg iter tg2 iter2 scope gpos) scope M.s4 H2 M.code M.fp M.it).pn ++ [(M.a, M.go)] := List.mem_append_right _ (List.mem_singleton_self _)
  refine gx_cons (n := f0 + 1) (S0 := gxS2 (gxZ X (gxTwo elt tg iter tg2 iter2 scope gpos) scope M.s4 H2 M.code M.fp M.it) [(M.a, M.go)] (wipe σ (own.map fun p : Str × Nat => p.2)) M.fp M.tn C 0 f0) hr M (gxS_ok hpn 0) ⟨H2, M.I5, M.st, fun b hb => (M.nf b hb).1.1, c0⟩ fun s2 h2 => ?_
  have lp := gx_seg2 (Z := gxZ X (gxTwo elt tg iter tg2 iter2 scope gpos) scope M.s4 H2 M.code M.fp M.it) (A := X.A.in1.in1) (n := n) (C := C) (vs := own.map fun p : Str × Nat => p.2) (vs2 := vs2) (YH := fun _ v H5 Nx => ∃ b, v = .bl b ∧ (b = st → Q (.bl st) H5) ∧ (b = !st → Nx H5)) (Yd := gxYd X pins σ Q st) (Dn := fun _ => gxFin X pins σ Q (.bl (!st))) hc rfl (fun e s z => z) ok.co hpn M.T (pg _ _ _ _ _ hroom) (pi _ _ _ _ _ hroom) (pg2 _ _ _ _ _ hroom) (pe _ _ _ _ _ hroom) (gx_fpall M) (fun {σ2} e => by rw [← e, wipe_length]) hvs (fun x => hs2 _ _ x)
    (fun i f H ci => (step i f H ci).imp (fun ⟨z1, z2, _⟩ => ⟨z1, z2⟩) fun z => z) (fun P1 σ2 fp2 tn2 C2 j _ y H s I st' nf ⟨b, ey, q1, q2⟩ => ⟨b, ey, fun z => ⟨H, gx_back M I, q1 z⟩, fun z => ⟨H, I, st', nf, q2 z⟩⟩) (fun s f H I ci => ⟨H, gx_back M I, by
      rcases step n f H ci with ⟨_, _, q⟩ | ⟨lt, _⟩
      · exact q
      · omega⟩) (n - 0) 0 f0 s2 s2 rfl h2
  obtain ⟨H3, I3, st3, _⟩ := h2
  exact gx_begin rfl (.inl rfl) (fun A' Q E q => M.T.self A' 0 s2 Q E st3 q) lp
theorem gx_anyEnd {a gi : Nat} {s5 : Shared} {Q : VK} (hG : s5.heap.IsGen a gi) (Jv : Nat → Shared → Prop) (m : Nat) (hJ : Jv m s5) (turn : ∀ m s', Jv m s' → wpAny (model X.prog X.w) X.A.in1 (pyNext (.ref a)) (fun r s1 => (r = none ∧ gxFin X pins σ Q (.bl (!true)) s1) ∨ ∃ b, r = some (.bool b) ∧ (b = true → gxFin X pins σ Q (.bl true) s1) ∧ (b = !true → ∃ m', m' < m ∧ Jv m' s1)) (fun _ _ => False) s') :
    wpAny (model X.prog X.w) X.A (call (.builtin "any") [.ref a]) (EP X pins σ Q) X.xe s5 := by
  refine call_anyI hG Jv (fun m s' h => wpAny_mono (turn m s' h) (fun r s1 z => ?_) fun _ _ z => z) hJ
  rcases z with ⟨e, H', I', q⟩ | ⟨b, e, q1, q2⟩
  · exact .inl ⟨e, .bl false, H', I', rfl, q⟩
  · exact .inr ⟨b, e, fun z => let ⟨H', I', q⟩ := q1 z; ⟨.bl true, H', I', rfl, q⟩, q2⟩
theorem gx_allEnd {a gi : Nat} {s5 : Shared} {Q : VK} (hG : s5.heap.IsGen a gi) (Jv : Nat → Shared → Prop) (m : Nat) (hJ : Jv m s5) (turn : ∀ m s', Jv m s' → wpAny (model X.prog X.w) X.A.in1 (pyNext (.ref a)) (fun r s1 => (r = none ∧ gxFin X pins σ Q (.bl (!false)) s1) ∨ ∃ b, r = some (.bool b) ∧ (b = false → gxFin X pins σ Q (.bl false) s1) ∧ (b = !false → ∃ m', m' < m ∧ Jv m' s1)) (fun _ _ => False) s') :
    wpAny (model X.prog X.w) X.A (call (.builtin "all") [.ref a]) (EP X pins σ Q) X.xe s5 := by
  refine call_allI hG Jv (fun m s' h => wpAny_mono (turn m s' h) (fun r s1 z => ?_) fun _ _ z => z) hJ
  rcases z with ⟨e, H', I', q⟩ | ⟨b, e, q1, q2⟩
  · exact .inl ⟨e, .bl true, H', I', rfl, q⟩
  · exact .inr ⟨b, e, fun z => let ⟨H', I', q⟩ := q1 z; ⟨.bl false, H', I', rfl, q⟩, q2⟩
theorem pe_gxAny (hr : Room (k + 1) X.A) (hg : Gl X "any") (hm : X.mg "any" = none) (TB : TabB X.base X.mg c P) (hcode : X.env.code = .ref c) (ok : GxOk X.N X.env.scope scope own) (hN : X.N.Nodup) (hc : X.calm = true) (hi : PI X tg iter wi)
    (pg : ∀ (A' : Around) (s : Shared) (H : Hp) (code : Value) (fp : List Addr), Room k A' → PG (gxX X A' s H (gxEnv X scope s code) fp) tg g) (pe : ∀ (A' : Around) (s : Shared) (H : Hp) (code : Value) (fp : List Addr), Room k A' → PE (gxX X A' s H (gxEnv X scope s code) fp) elt te)
    (hs : ∀ v, genFold iter X.env v = pure v) (he : starEach [gxOne elt tg iter scope gpos] X.env = (false, eval (gxOne elt tg iter scope gpos) X.env) :: starEach [] X.env := by rfl) :
    PE X (.Call (.Name "any" p) [gxOne elt tg iter scope gpos] [] pos) (tGx P wi g te (own.map fun p : Str × Nat => p.2) true) := by
  refine ⟨fun pins s σ H Q I h => wpAny_Call_Name_kw (ld_blt I hg hm boot_any (PyProof.Rows.callWith_builtin1 ?_ he (by rfl)))⟩
  rw [he]
  show wpAny _ _ (spliced ((false, eval (gxOne elt tg iter scope gpos) X.env) :: backTo pos (starEach [] X.env))) _ _ s
  refine Calls.spliced_cons (gx_make (own := own) (R := fun J H2 => GxWant J g te (wipe σ (own.map fun p : Str × Nat => p.2)) (own.map fun p : Str × Nat => p.2) true Q H2) hr TB hcode ok hN hc hi hs I h fun J H2 s5 M hR => Calls.spliced_nil ?_)
  obtain ⟨hG, Jv, m, hJ, turn⟩ := gx_run1 hr hc ok M pg pe hR
  exact gx_anyEnd hG Jv m hJ turn
theorem pe_gxAny2 (hr : Room (k + 1) X.A) (hg : Gl X "any") (hm : X.mg "any" = none) (TB : TabB X.base X.mg c P) (hcode : X.env.code = .ref c) (ok : GxOk X.N X.env.scope scope own) (hN : X.N.Nodup) (hc : X.calm = true) {vs2 : List Nat} (hvs : ∀ j ∈ vs2, j ∈ own.map fun p : Str × Nat => p.2) (hs2 : ∀ (s : Shared) (code : Value) x, foldedSetIterable iter2 (gxEnv X scope s code) x = pure x) (hi : PI X tg iter wi)
    (pg : ∀ (A' : Around) (s : Shared) (H : Hp) (code : Value) (fp : List Addr), Room k A' → PG (gxX X A' s H (gxEnv X scope s code) fp) tg g) (pi : ∀ (A' : Around) (s : Shared) (H : Hp) (code : Value) (fp : List Addr), Room k A' → PI (gxX X A' s H (gxEnv X scope s code) fp) tg2 iter2 wi2)
    (pg2 : ∀ (A' : Around) (s : Shared) (H : Hp) (code : Value) (fp : List Addr), Room k A' → PG (gxX X A' s H (gxEnv X scope s code) fp) tg2 g2) (pe : ∀ (A' : Around) (s : Shared) (H : Hp) (code : Value) (fp : List Addr), Room k A' → PE (gxX X A' s H (gxEnv X scope s code) fp) elt te)
    (hs : ∀ v, genFold iter X.env v = pure v) (he : starEach [gxTwo elt tg iter tg2 iter2 scope gpos] X.env = (false, eval (gxTwo elt tg iter tg2 iter2 scope gpos) X.env) :: starEach [] X.env := by rfl) :
    PE X (.Call (.Name "any" p) [gxTwo elt tg iter tg2 iter2 scope gpos] [] pos) (tGx2 P wi g wi2 g2 te (own.map fun p : Str × Nat => p.2) vs2 true) := by
  refine ⟨fun pins s σ H Q I h => wpAny_Call_Name_kw (ld_blt I hg hm boot_any (PyProof.Rows.callWith_builtin1 ?_ he (by rfl)))⟩
  rw [he]
  show wpAny _ _ (spliced ((false, eval (gxTwo elt tg iter tg2 iter2 scope gpos) X.env) :: backTo pos (starEach [] X.env))) _ _ s
  refine Calls.spliced_cons (gx_make (own := own) (R := fun J H2 => GxWant2 J g wi2 g2 te (wipe σ (own.map fun p : Str × Nat => p.2)) (own.map fun p : Str × Nat => p.2) vs2 true Q H2) hr TB hcode ok hN hc hi hs I h fun J H2 s5 M hR => Calls.spliced_nil ?_)
  obtain ⟨hG, Jv, m, hJ, turn⟩ := gx_run2 hr hc ok M hvs hs2 pg pi pg2 pe hR
  exact gx_anyEnd hG Jv m hJ turn
theorem pe_gxAll (hr : Room (k + 1) X.A) (hg : Gl X "all") (hm : X.mg "all" = none) (hb : bootBuiltins "all" = some (.builtin "all")) (TB : TabB X.base X.mg c P) (hcode : X.env.code = .ref c) (ok : GxOk X.N X.env.scope scope own) (hN : X.N.Nodup) (hc : X.calm = true) (hi : PI X tg iter wi)
    (pg : ∀ (A' : Around) (s : Shared) (H : Hp) (code : Value) (fp : List Addr), Room k A' → PG (gxX X A' s H (gxEnv X scope s code) fp) tg g) (pe : ∀ (A' : Around) (s : Shared) (H : Hp) (code : Value) (fp : List Addr), Room k A' → PE (gxX X A' s H (gxEnv X scope s code) fp) elt te)
    (hs : ∀ v, genFold iter X.env v = pure v) (he : starEach [gxOne elt tg iter scope gpos] X.env = (false, eval (gxOne elt tg iter scope gpos) X.env) :: starEach [] X.env := by rfl) :
    PE X (.Call (.Name "all" p) [gxOne elt tg iter scope gpos] [] pos) (tGx P wi g te (own.map fun p : Str × Nat => p.2) false) := by
  refine ⟨fun pins s σ H Q I h => wpAny_Call_Name_kw (ld_blt I hg hm hb (PyProof.Rows.callWith_builtin1 ?_ he (by rfl)))⟩
  rw [he]
  show wpAny _ _ (spliced ((false, eval (gxOne elt tg iter scope gpos) X.env) :: backTo pos (starEach [] X.env))) _ _ s
  refine Calls.spliced_cons (gx_make (own := own) (R := fun J H2 => GxWant J g te (wipe σ (own.map fun p : Str × Nat => p.2)) (own.map fun p : Str × Nat => p.2) false Q H2) hr TB hcode ok hN hc hi hs I h fun J H2 s5 M hR => Calls.spliced_nil ?_)
  obtain ⟨hG, Jv, m, hJ, turn⟩ := gx_run1 hr hc ok M pg pe hR
  exact gx_allEnd hG Jv m hJ turn
theorem pe_gxAll2 (hr : Room (k + 1) X.A) (hg : Gl X "all") (hm : X.mg "all" = none) (hb : bootBuiltins "all" = some (.builtin "all")) (TB : TabB X.base X.mg c P) (hcode : X.env.code = .ref c) (ok : GxOk X.N X.env.scope scope own) (hN : X.N.Nodup) (hc : X.calm = true) {vs2 : List Nat} (hvs : ∀ j ∈ vs2, j ∈ own.map fun p : Str × Nat => p.2) (hs2 : ∀ (s : Shared) (code : Value) x, foldedSetIterable iter2 (gxEnv X scope s code) x = pure x) (hi : PI X tg iter wi)
    (pg : ∀ (A' : Around) (s : Shared) (H : Hp) (code : Value) (fp : List Addr), Room k A' → PG (gxX X A' s H (gxEnv X scope s code) fp) tg g) (pi : ∀ (A' : Around) (s : Shared) (H : Hp) (code : Value) (fp : List Addr), Room k A' → PI (gxX X A' s H (gxEnv X scope s code) fp) tg2 iter2 wi2)
    (pg2 : ∀ (A' : Around) (s : Shared) (H : Hp) (code : Value) (fp : List Addr), Room k A' → PG (gxX X A' s H (gxEnv X scope s code) fp) tg2 g2) (pe : ∀ (A' : Around) (s : Shared) (H : Hp) (code : Value) (fp : List Addr), Room k A' → PE (gxX X A' s H (gxEnv X scope s code) fp) elt te)
    (hs : ∀ v, genFold iter X.env v = pure v) (he : starEach [gxTwo elt tg iter tg2 iter2 scope gpos] X.env = (false, eval (gxTwo elt tg iter tg2 iter2 scope gpos) X.env) :: starEach [] X.env := by rfl) :
    PE X (.Call (.Name "all" p) [gxTwo elt tg iter tg2 iter2 scope gpos] [] pos) (tGx2 P wi g wi2 g2 te (own.map fun p : Str × Nat => p.2) vs2 false) := by
  refine ⟨fun pins s σ H Q I h => wpAny_Call_Name_kw (ld_blt I hg hm hb (PyProof.Rows.callWith_builtin1 ?_ he (by rfl)))⟩
  rw [he]
  show wpAny _ _ (spliced ((false, eval (gxTwo elt tg iter tg2 iter2 scope gpos) X.env) :: backTo pos (starEach [] X.env))) _ _ s
  refine Calls.spliced_cons (gx_make (own := own) (R := fun J H2 => GxWant2 J g wi2 g2 te (wipe σ (own.map fun p : Str × Nat => p.2)) (own.map fun p : Str × Nat => p.2) vs2 false Q H2) hr TB hcode ok hN hc hi hs I h fun J H2 s5 M hR => Calls.spliced_nil ?_)
  obtain ⟨hG, Jv, m, hJ, turn⟩ := gx_run2 hr hc ok M hvs hs2 pg pi pg2 pe hR
  exact gx_allEnd hG Jv m hJ turn
end
end Sk


set_option Elab.async false
set_option linter.all false
set_option maxRecDepth 100000
set_option maxHeartbeats 4100000
/-! Sk34: any(..), all(..) of a generator expression, typed. -/
namespace Sk
open PySem L2 Evl
open GxR (TabB TabG Tabbed)
section
variable {K : Fg} {B : Bs} {Γ : Gm} {O : List Own} {σ : St} {G H H' : Hp}
/-- a table has grown -/
theorem Ws.tabbed {P0 : Addr} (hP : P0 ∈ B.T) (W : Ws K B Γ O σ G H) (t : Tabbed P0 H H') : Ws K B Γ O σ G H' := by
  obtain ⟨⟨ps, e1, e2⟩, ht⟩ := t
  obtain ⟨_, n0⟩ := W.tab P0 hP
  refine W.step ⟨fun c o e => ?_, Ex.refl _, fun c o e h1 _ => ?_, fun c h => ?_, fun c h h' => (h' h).elim, fun c hc h => ?_⟩
  · have hne : c ≠ P0 := fun z => by
      rw [z, n0] at e
      cases e
    rw [ht c hne]
    exact W.sub c o e
  · rw [ht c fun z => h1 (by rw [z]; exact hP)]
    exact e
  · by_cases z : c = P0
    · rw [z, e1]
      exact fun q => nomatch q
    · rw [ht c z]
      exact h
  · by_cases z : c = P0
    · rw [z]
      exact ⟨ps, e1, e2⟩
    · obtain ⟨qs, q1, q2⟩ := h
      exact ⟨qs, by rw [ht c z]; exact q1, q2⟩
end
section
variable {ι : Type} {F : ι → Cx} {K : Fg} {B : Bs} {Γ : Gm} {O : List Own} {α : Type} {ra : Rp α} {e tg elt iter : Expr} {n : Str} {p pos gpos : Pos} {scope : Scope}
variable {P : Program} {w : World} {mg : Str → Option Value} {base : Heap} {k : Nat}
/-- the contexts of a generator expression's frame -/
abbrev ιG (ι : Type) (k : Nat) : Type := ι × { A' : Around // Room k A' } × Shared × Hp × Value × List Addr
abbrev gxF {ι : Type} (F : ι → Cx) (k : Nat) (scope : Scope) : ιG ι k → Cx := fun j => gxX (F j.1) j.2.1.1 j.2.2.1 j.2.2.2.1 (gxEnv (F j.1) scope j.2.2.1 j.2.2.2.2.1) j.2.2.2.2.2
instance famGx [fam : Fam F P w K mg base (k + 1)] : Fam (gxF F k scope) P w K mg base k :=
  ⟨fun j => fam.pr j.1, fun j => fam.wd j.1, fun j => fam.ka j.1, fun j => fam.mg j.1, fun j => fam.bs j.1, fun j => j.2.1.2, fun j => fam.cm j.1, fun j => fam.nd j.1⟩
/-- the running def's code object, its table at P0 -/
def TabF (F : ι → Cx) (P0 : Addr) : Prop := ∀ i, ∃ c, TabB (F i).base (F i).mg c P0 ∧ (F i).env.code = .ref c
theorem gx_want [fam : Fam F P w K mg base (k + 1)] (own : List (Str × Nat)) (vs : List Nat) (P0 : Addr) (hP0 : P0 ∈ B.T) {Γ' : Gm} [hw : WipeG Γ vs Γ'] {js : List Nat} {f : α → Bool} {st : Bool} {Φ : Bool → List Own → Prop}
    (h : DI F K B Γ O tg iter ra fun xs O1 => O1 = O ∧ (∀ gg x, x ∈ xs → DG (gxF F k scope) K (B.push gg) Γ' O tg ra x js fun Γ2 => DW (gxF F k scope) K (B.push gg) Γ2 O elt rBool fun y O3 => y = f x ∧ O3 = O) ∧ (xs.any (fun x => f x == st) = true → Φ st O) ∧ (xs.any (fun x => f x == st) = false → Φ (!st) O))
    (hv : own.map (·.2) = vs) (hjs : ∀ j ∈ js, j ∈ vs) {σ : St} {G H : Hp} (W : Ws K B Γ O σ G H) {Q : VK} (q : ∀ b O' G' H', Φ b O' → Ws K B Γ O' σ G' H' → Ex G G' → Q (.bl b) H') :
    tGx P0 (WI F tg iter) (WG (gxF F k scope) tg) (WE (gxF F k scope) elt) (own.map (·.2)) st σ H Q := by
  refine h σ G H W _ fun xs J O1 G1 H1 ⟨e1, hst, ht, hf⟩ gv W1 ee => ?_
  subst e1
  refine ⟨(W1.tab P0 hP0).1, fun H2 tb => ?_⟩
  have W2 := W1.tabbed hP0 tb
  rw [hv]
  have hG : ∀ {G' : Hp}, Ex G1 G' → EnvR K G' σ Γ := fun e => W.env.mono (ee.trans e)
  refine ⟨xs.length, fun i H => i ≤ xs.length ∧ (∀ (j : Nat) (x : α), j < i → xs[j]? = some x → f x = !st) ∧ ∃ G2, Ws K (B.push G1) Γ' O1 (wipe σ vs) G2 H, ⟨Nat.zero_le _, fun j x hj => absurd hj (Nat.not_lt_zero _), G1, W2.base.env' (hw.env (hG (Ex.refl _)))⟩, ?_⟩
  rintro i H3 ⟨hi, hall, G3, W3⟩
  have eb : Ex G1 G3 := W3.bs G1 List.mem_cons_self
  by_cases hlt : i < xs.length
  · refine .inr ⟨hlt, gv.go i G3 H3 hlt eb W3.sub, fun v H4 y => ?_⟩
    obtain ⟨x, G4, hx, s4, r4⟩ := gv.yld i G3 H3 v H4 hlt eb W3.sub y
    refine hst G1 x (List.mem_of_getElem? hx) (wipe σ vs) G4 H4 v (W3.step s4) r4 _ fun Γ2 σ2 q2 W4 wp => ⟨(wp vs hjs).trans wipe_wipe, ?_⟩
    refine q2 σ2 G4 H4 W4 _ fun b O5 u G5 H5 ⟨eb5, eo⟩ W5 e5 r5 => ?_
    subst eo
    have e15 : Ex G1 G5 := W5.bs G1 List.mem_cons_self
    refine ⟨b, r5, fun z => ?_, fun z => ⟨hlt, fun j x' hj hx' => ?_, G5, W5.env' (hw.env (hG e15))⟩⟩
    · have hit : xs.any (fun x => f x == st) = true := List.any_eq_true.mpr ⟨x, List.mem_of_getElem? hx, by rw [← eb5, z]; exact beq_self_eq_true st⟩
      exact q st O5 G5 H5 (ht hit) (W5.unbase.env' (hG e15)) (ee.trans e15)
    · by_cases hji : j = i
      · subst hji
        rw [hx] at hx'
        cases hx'
        rw [← eb5]
        exact z
      · exact hall j x' (by omega) hx'
  · obtain rfl : i = xs.length := by omega
    refine .inl ⟨rfl, gv.stop G3 H3 eb W3.sub, q (!st) O1 G3 H3 (hf ?_) (W3.unbase.env' (hG eb)) (ee.trans eb)⟩
    rw [List.any_eq_false]
    intro x hx
    obtain ⟨j, hj⟩ := List.getElem?_of_mem hx
    rw [hall j x (List.getElem?_eq_some_iff.mp hj).1 hj]
    cases st <;> decide
theorem d_gxAny [fam : Fam F P w K mg base (k + 1)] (own : List (Str × Nat)) (vs : List Nat) (P0 : Addr) (hP0 : P0 ∈ B.T) (tb : TabF F P0) (ok : ∀ i, GxOk (F i).N (F i).env.scope scope own) {Γ' : Gm} [hw : WipeG Γ vs Γ'] {js : List Nat} {f : α → Bool} {Φ : Bool → List Own → Prop} (hm : mg "any" = none)
    (h : DI F K B Γ O tg iter ra fun xs O1 => O1 = O ∧ (∀ gg x, x ∈ xs → DG (gxF F k scope) K (B.push gg) Γ' O tg ra x js fun Γ2 => DW (gxF F k scope) K (B.push gg) Γ2 O elt rBool fun y O3 => y = f x ∧ O3 = O) ∧ Φ (xs.any f) O)
    (hv : own.map (·.2) = vs := by rfl) (hjs : ∀ j ∈ js, j ∈ vs := by decide) (hg : ∀ i, Gl (F i) "any" := by intro _; rfl) (hs : ∀ i v, genFold iter (F i).env v = pure v := by intro _ _; rfl)
    (he : ∀ i, starEach [.GeneratorExp elt [⟨tg, iter, [], 0⟩] scope gpos] (F i).env = (false, eval (.GeneratorExp elt [⟨tg, iter, [], 0⟩] scope gpos) (F i).env) :: starEach [] (F i).env := by intro _; rfl) :
    DW F K B Γ O (.Call (.Name "any" p) [.GeneratorExp elt [⟨tg, iter, [], 0⟩] scope gpos] [] pos) rBool Φ := by
  intro σ G H W Q q
  refine ⟨tGx P0 (WI F tg iter) (WG (gxF F k scope) tg) (WE (gxF F k scope) elt) (own.map (·.2)) true, fun i => ?_, ?_⟩
  · obtain ⟨c, tb1, tb2⟩ := tb i
    exact pe_gxAny (fam.rm i) (hg i) (by rw [fam.mg i]; exact hm) tb1 tb2 (ok i) (fam.nd i) (fam.cm i) (WI.pi i) (fun A' s H code fp hr => WG.pg (F := gxF F k scope) (i, ⟨A', hr⟩, s, H, code, fp)) (fun A' s H code fp hr => WE.pe (F := gxF F k scope) (i, ⟨A', hr⟩, s, H, code, fp)) (hs i) (he i)
  · refine gx_want (ra := ra) (f := f) (st := true) (Φ := Φ) own vs P0 hP0 (js := js) ?_ hv hjs W fun b O' G' H' kk W' e' => q b O' (.bl b) G' H' kk W' e' rfl
    intro σ1 G1 H1 W1 R1 q1
    refine h σ1 G1 H1 W1 R1 fun xs J O1 G2 H2 ⟨e1, e2, e3⟩ gv W2 e4 => q1 xs J O1 G2 H2 ⟨e1, e2, fun z => ?_, fun z => ?_⟩ gv W2 e4
    · have : xs.any f = true := by simpa using z
      rw [this] at e3
      exact e3
    · have : xs.any f = false := by simpa using z
      rw [this] at e3
      exact e3
theorem d_gxAll [fam : Fam F P w K mg base (k + 1)] (own : List (Str × Nat)) (vs : List Nat) (P0 : Addr) (hP0 : P0 ∈ B.T) (tb : TabF F P0) (ok : ∀ i, GxOk (F i).N (F i).env.scope scope own) {Γ' : Gm} [hw : WipeG Γ vs Γ'] {js : List Nat} {f : α → Bool} {Φ : Bool → List Own → Prop} (hm : mg "all" = none)
    (h : DI F K B Γ O tg iter ra fun xs O1 => O1 = O ∧ (∀ gg x, x ∈ xs → DG (gxF F k scope) K (B.push gg) Γ' O tg ra x js fun Γ2 => DW (gxF F k scope) K (B.push gg) Γ2 O elt rBool fun y O3 => y = f x ∧ O3 = O) ∧ Φ (xs.all f) O)
    (hv : own.map (·.2) = vs := by rfl) (hjs : ∀ j ∈ js, j ∈ vs := by decide) (hg : ∀ i, Gl (F i) "all" := by intro _; rfl) (hs : ∀ i v, genFold iter (F i).env v = pure v := by intro _ _; rfl)
    (he : ∀ i, starEach [.GeneratorExp elt [⟨tg, iter, [], 0⟩] scope gpos] (F i).env = (false, eval (.GeneratorExp elt [⟨tg, iter, [], 0⟩] scope gpos) (F i).env) :: starEach [] (F i).env := by intro _; rfl) (hb : bootBuiltins "all" = some (.builtin "all") := by first | exact boot_all | decide +kernel) :
    DW F K B Γ O (.Call (.Name "all" p) [.GeneratorExp elt [⟨tg, iter, [], 0⟩] scope gpos] [] pos) rBool Φ := by
  intro σ G H W Q q
  refine ⟨tGx P0 (WI F tg iter) (WG (gxF F k scope) tg) (WE (gxF F k scope) elt) (own.map (·.2)) false, fun i => ?_, ?_⟩
  · obtain ⟨c, tb1, tb2⟩ := tb i
    exact pe_gxAll (fam.rm i) (hg i) (by rw [fam.mg i]; exact hm) hb tb1 tb2 (ok i) (fam.nd i) (fam.cm i) (WI.pi i) (fun A' s H code fp hr => WG.pg (F := gxF F k scope) (i, ⟨A', hr⟩, s, H, code, fp)) (fun A' s H code fp hr => WE.pe (F := gxF F k scope) (i, ⟨A', hr⟩, s, H, code, fp)) (hs i) (he i)
  · refine gx_want (ra := ra) (f := f) (st := false) (Φ := Φ) own vs P0 hP0 (js := js) ?_ hv hjs W fun b O' G' H' kk W' e' => q b O' (.bl b) G' H' kk W' e' rfl
    intro σ1 G1 H1 W1 R1 q1
    refine h σ1 G1 H1 W1 R1 fun xs J O1 G2 H2 ⟨e1, e2, e3⟩ gv W2 e4 => q1 xs J O1 G2 H2 ⟨e1, e2, fun z => ?_, fun z => ?_⟩ gv W2 e4
    · have : xs.all f = false := by
        rw [List.any_eq_true] at z
        obtain ⟨x, hx, hz⟩ := z
        rw [List.all_eq_false]
        exact ⟨x, hx, by simpa using hz⟩
      rw [this] at e3
      exact e3
    · have : xs.all f = true := by
        rw [List.any_eq_false] at z
        rw [List.all_eq_true]
        intro x hx
        simpa using z x hx
      rw [this] at e3
      exact e3
end
end Sk


set_option Elab.async false
set_option linter.all false
set_option maxRecDepth 100000
set_option maxHeartbeats 4100000
/-! Sk35: any(..), all(..) of a generator expression with two clauses, typed. -/
namespace Sk
open PySem L2 Evl
open GxR (TabB TabG Tabbed)
section
variable {ι : Type} {F : ι → Cx} {K : Fg} {B : Bs} {Γ : Gm} {O : List Own} {α β : Type} {ra : Rp α} {rb : Rp β} {tg elt iter tg2 iter2 : Expr} {n : Str} {p pos gpos : Pos} {scope : Scope}
variable {P : Program} {w : World} {mg : Str → Option Value} {base : Heap} {k : Nat}
/-- the inner clause, at x -/
def Gx2 {ι : Type} (F : ι → Cx) (k : Nat) (scope : Scope) (K : Fg) (B : Bs) (Γ2 : Gm) (O : List Own) (tg2 iter2 elt : Expr) {β : Type} (rb : Rp β) (vs2 js2 : List Nat) (ys : List β) (f : β → Bool) : Prop :=
  ∃ Γ3, WipeG Γ2 vs2 Γ3 ∧ DI (gxF F k scope) K B Γ2 O tg2 iter2 rb fun zs O2 => zs = ys ∧ O2 = O ∧ ∀ gg y, y ∈ zs → DG (gxF F k scope) K (B.push gg) Γ3 O tg2 rb y js2 fun Γ4 => DW (gxF F k scope) K (B.push gg) Γ4 O elt rBool fun b O3 => b = f y ∧ O3 = O
theorem gx_want2 [fam : Fam F P w K mg base (k + 1)] (own : List (Str × Nat)) (vs vs2 : List Nat) (P0 : Addr) (hP0 : P0 ∈ B.T) {Γ' : Gm} [hw : WipeG Γ vs Γ'] {js js2 : List Nat} {l : α → List β} {f : α → β → Bool} {st : Bool} {Φ : Bool → List Own → Prop}
    (h : DI F K B Γ O tg iter ra fun xs O1 => O1 = O ∧ (∀ gg x, x ∈ xs → DG (gxF F k scope) K (B.push gg) Γ' O tg ra x js fun Γ2 => Gx2 F k scope K (B.push gg) Γ2 O tg2 iter2 elt rb vs2 js2 (l x) (f x)) ∧ (xs.any (fun x => (l x).any fun y => f x y == st) = true → Φ st O) ∧ (xs.any (fun x => (l x).any fun y => f x y == st) = false → Φ (!st) O))
    (hv : own.map (·.2) = vs) (hjs : ∀ j ∈ js, j ∈ vs) (hjs2 : ∀ j ∈ js2, j ∈ vs2) {σ : St} {G H : Hp} (W : Ws K B Γ O σ G H) {Q : VK} (q : ∀ b O' G' H', Φ b O' → Ws K B Γ O' σ G' H' → Ex G G' → Q (.bl b) H') :
    tGx2 P0 (WI F tg iter) (WG (gxF F k scope) tg) (WI (gxF F k scope) tg2 iter2) (WG (gxF F k scope) tg2) (WE (gxF F k scope) elt) (own.map fun p : Str × Nat => p.2) vs2 st σ H Q := by
  refine h σ G H W _ fun xs J O1 G1 H1 ⟨e1, hst, ht, hf⟩ gv W1 ee => ?_
  subst e1
  refine ⟨(W1.tab P0 hP0).1, fun H2 tb => ?_⟩
  have W2 := W1.tabbed hP0 tb
  rw [show (own.map fun p : Str × Nat => p.2) = vs from hv]
  have hG : ∀ {G' : Hp}, Ex G1 G' → EnvR K G' σ Γ := fun e => W.env.mono (ee.trans e)
  refine ⟨xs.length, ((xs.drop 0).map fun x => (l x).length).sum, fun i f' H => i ≤ xs.length ∧ f' = ((xs.drop i).map fun x => (l x).length).sum ∧ (∀ (j : Nat) (x : α), j < i → xs[j]? = some x → ∀ y ∈ l x, f x y = !st) ∧ ∃ G2, Ws K (B.push G1) Γ' O1 (wipe σ vs) G2 H, ⟨Nat.zero_le _, rfl, fun j x hj => absurd hj (Nat.not_lt_zero _), G1, W2.base.env' (hw.env (hG (Ex.refl _)))⟩, ?_⟩
  rintro i f' H3 ⟨hi, hf', hall, G3, W3⟩
  have eb : Ex G1 G3 := W3.bs G1 List.mem_cons_self
  by_cases hlt : i < xs.length
  · refine .inr ⟨hlt, gv.go i G3 H3 hlt eb W3.sub, fun v H4 y => ?_⟩
    obtain ⟨x, G4, hx, s4, r4⟩ := gv.yld i G3 H3 v H4 hlt eb W3.sub y
    have hdrop : xs.drop i = x :: xs.drop (i + 1) := by
      obtain ⟨h1, h2⟩ := List.getElem?_eq_some_iff.mp hx
      rw [← h2]
      exact List.drop_eq_getElem_cons h1
    refine hst G1 x (List.mem_of_getElem? hx) (wipe σ vs) G4 H4 v (W3.step s4) r4 _ fun Γ2 σ2 ⟨Γ3, hw2, q2⟩ W4 wp => ⟨(wp vs hjs).trans wipe_wipe, ?_⟩
    refine q2 σ2 G4 H4 W4 _ fun zs J2 O2 G5 H5 ⟨ez, eo, hst2⟩ gv2 W5 e5 => ?_
    subst eo
    subst ez
    have hG2 : ∀ {G' : Hp}, Ex G5 G' → EnvR K G' σ2 Γ2 := fun e => W4.env.mono (e5.trans e)
    have e15 : ∀ {G'}, Ex G5 G' → Ex G1 G' := fun e => (W5.bs G1 List.mem_cons_self).trans e
    refine ⟨(l x).length, fun j H => j ≤ (l x).length ∧ (∀ (m : Nat) (y : β), m < j → (l x)[m]? = some y → f x y = !st) ∧ ∃ G2, Ws K ((B.push G1).push G5) Γ3 O2 (wipe σ2 vs2) G2 H, ?_, ⟨Nat.zero_le _, fun j x hj => absurd hj (Nat.not_lt_zero _), G5, W5.base.env' (hw2.env (hG2 (Ex.refl _)))⟩, ?_, ?_⟩
    · rw [hf', hdrop, List.map_cons, List.sum_cons]
      exact Nat.le_add_right _ _
    · rintro H6 ⟨_, hall2, G6, W6⟩
      have eb6 : Ex G5 G6 := W6.bs G5 List.mem_cons_self
      refine ⟨hlt, ?_, fun m x' hm hx' => ?_, G6, W6.unbase.env' (hw.env (hG (e15 eb6)))⟩
      · rw [hf', hdrop, List.map_cons, List.sum_cons]
        exact Nat.add_sub_cancel_left _ _
      · by_cases hmi : m = i
        · subst hmi
          rw [hx] at hx'
          cases hx'
          intro y hy
          obtain ⟨m2, hm2⟩ := List.getElem?_of_mem hy
          exact hall2 m2 y (List.getElem?_eq_some_iff.mp hm2).1 hm2
        · exact hall m x' (by omega) hx'
    · rintro j H6 ⟨hj, hall2, G6, W6⟩
      have eb6 : Ex G5 G6 := W6.bs G5 List.mem_cons_self
      by_cases hlt2 : j < (l x).length
      · refine .inr ⟨hlt2, gv2.go j G6 H6 hlt2 eb6 W6.sub, fun v2 H7 y7 => ?_⟩
        obtain ⟨y, G7, hy, s7, r7⟩ := gv2.yld j G6 H6 v2 H7 hlt2 eb6 W6.sub y7
        refine hst2 G5 y (List.mem_of_getElem? hy) (wipe σ2 vs2) G7 H7 v2 (W6.step s7) r7 _ fun Γ4 σ3 q4 W8 wp2 => ⟨(wp2 vs2 hjs2).trans wipe_wipe, ?_⟩
        refine q4 σ3 G7 H7 W8 _ fun b O5 u G9 H9 ⟨eb9, eo9⟩ W9 e9 r9 => ?_
        subst eo9
        have e59 : Ex G5 G9 := W9.bs G5 List.mem_cons_self
        refine ⟨b, r9, fun z => ?_, fun z => ⟨hlt2, fun m y' hm hy' => ?_, G9, W9.env' (hw2.env (hG2 e59))⟩⟩
        · have hit : xs.any (fun x => (l x).any fun y => f x y == st) = true := List.any_eq_true.mpr ⟨x, List.mem_of_getElem? hx, List.any_eq_true.mpr ⟨y, List.mem_of_getElem? hy, by rw [← eb9, z]; exact beq_self_eq_true st⟩⟩
          exact q st O5 G9 H9 (ht hit) (W9.unbase.unbase.env' (hG (e15 e59))) (ee.trans (e15 e59))
        · by_cases hmj : m = j
          · subst hmj
            rw [hy] at hy'
            cases hy'
            rw [← eb9]
            exact z
          · exact hall2 m y' (by omega) hy'
      · obtain rfl : j = (l x).length := by omega
        exact .inl ⟨rfl, gv2.stop G6 H6 eb6 W6.sub⟩
  · obtain rfl : i = xs.length := by omega
    refine .inl ⟨rfl, gv.stop G3 H3 eb W3.sub, q (!st) O1 G3 H3 (hf ?_) (W3.unbase.env' (hG eb)) (ee.trans eb)⟩
    rw [List.any_eq_false]
    intro x hx
    obtain ⟨j, hj⟩ := List.getElem?_of_mem hx
    rw [Bool.not_eq_true, List.any_eq_false]
    intro y hy
    rw [hall j x (List.getElem?_eq_some_iff.mp hj).1 hj y hy]
    cases st <;> decide
theorem d_gxAny2 [fam : Fam F P w K mg base (k + 1)] (own : List (Str × Nat)) (vs vs2 : List Nat) (P0 : Addr) (hP0 : P0 ∈ B.T) (tb : TabF F P0) (ok : ∀ i, GxOk (F i).N (F i).env.scope scope own) {Γ' : Gm} [hw : WipeG Γ vs Γ'] {js js2 : List Nat} {l : α → List β} {f : α → β → Bool} {Φ : Bool → List Own → Prop} (hm : mg "any" = none)
    (h : DI F K B Γ O tg iter ra fun xs O1 => O1 = O ∧ (∀ gg x, x ∈ xs → DG (gxF F k scope) K (B.push gg) Γ' O tg ra x js fun Γ2 => Gx2 F k scope K (B.push gg) Γ2 O tg2 iter2 elt rb vs2 js2 (l x) (f x)) ∧ Φ (xs.any fun x => (l x).any (f x)) O)
    (hv : own.map (·.2) = vs := by rfl) (hjs : ∀ j ∈ js, j ∈ vs := by decide) (hjs2 : ∀ j ∈ js2, j ∈ vs2 := by decide) (hvs : ∀ j ∈ vs2, j ∈ vs := by decide) (hg : ∀ i, Gl (F i) "any" := by intro _; rfl) (hs : ∀ i v, genFold iter (F i).env v = pure v := by intro _ _; rfl) (hs2 : ∀ i (s : Shared) (code : Value) x, foldedSetIterable iter2 (gxEnv (F i) scope s code) x = pure x := by intro _ _ _ _; rfl)
    (he : ∀ i, starEach [gxTwo elt tg iter tg2 iter2 scope gpos] (F i).env = (false, eval (gxTwo elt tg iter tg2 iter2 scope gpos) (F i).env) :: starEach [] (F i).env := by intro _; rfl) :
    DW F K B Γ O (.Call (.Name "any" p) [gxTwo elt tg iter tg2 iter2 scope gpos] [] pos) rBool Φ := by
  intro σ G H W Q q
  refine ⟨tGx2 P0 (WI F tg iter) (WG (gxF F k scope) tg) (WI (gxF F k scope) tg2 iter2) (WG (gxF F k scope) tg2) (WE (gxF F k scope) elt) (own.map fun p : Str × Nat => p.2) vs2 true, fun i => ?_, ?_⟩
  · obtain ⟨c, tb1, tb2⟩ := tb i
    exact pe_gxAny2 (fam.rm i) (hg i) (by rw [fam.mg i]; exact hm) tb1 tb2 (ok i) (fam.nd i) (fam.cm i) (by intro j hj; rw [show (own.map fun p : Str × Nat => p.2) = vs from hv]; exact hvs j hj) (hs2 i) (WI.pi i) (fun A' s H code fp hr => WG.pg (F := gxF F k scope) (i, ⟨A', hr⟩, s, H, code, fp)) (fun A' s H code fp hr => WI.pi (F := gxF F k scope) (i, ⟨A', hr⟩, s, H, code, fp)) (fun A' s H code fp hr => WG.pg (F := gxF F k scope) (i, ⟨A', hr⟩, s, H, code, fp)) (fun A' s H code fp hr => WE.pe (F := gxF F k scope) (i, ⟨A', hr⟩, s, H, code, fp)) (hs i) (he i)
  · refine gx_want2 (ra := ra) (rb := rb) (l := l) (f := f) (st := true) (Φ := Φ) own vs vs2 P0 hP0 (js := js) (js2 := js2) ?_ hv hjs hjs2 W fun b O' G' H' kk W' e' => q b O' (.bl b) G' H' kk W' e' rfl
    intro σ1 G1 H1 W1 R1 q1
    refine h σ1 G1 H1 W1 R1 fun xs J O1 G2 H2 ⟨e1, e2, e3⟩ gv W2 e4 => q1 xs J O1 G2 H2 ⟨e1, e2, fun z => ?_, fun z => ?_⟩ gv W2 e4
    · have : (xs.any fun x => (l x).any (f x)) = true := by simpa using z
      rw [this] at e3
      exact e3
    · have : (xs.any fun x => (l x).any (f x)) = false := by simpa using z
      rw [this] at e3
      exact e3
theorem d_gxAll2 [fam : Fam F P w K mg base (k + 1)] (own : List (Str × Nat)) (vs vs2 : List Nat) (P0 : Addr) (hP0 : P0 ∈ B.T) (tb : TabF F P0) (ok : ∀ i, GxOk (F i).N (F i).env.scope scope own) {Γ' : Gm} [hw : WipeG Γ vs Γ'] {js js2 : List Nat} {l : α → List β} {f : α → β → Bool} {Φ : Bool → List Own → Prop} (hm : mg "all" = none)
    (h : DI F K B Γ O tg iter ra fun xs O1 => O1 = O ∧ (∀ gg x, x ∈ xs → DG (gxF F k scope) K (B.push gg) Γ' O tg ra x js fun Γ2 => Gx2 F k scope K (B.push gg) Γ2 O tg2 iter2 elt rb vs2 js2 (l x) (f x)) ∧ Φ (xs.all fun x => (l x).all (f x)) O)
    (hv : own.map (·.2) = vs := by rfl) (hjs : ∀ j ∈ js, j ∈ vs := by decide) (hjs2 : ∀ j ∈ js2, j ∈ vs2 := by decide) (hvs : ∀ j ∈ vs2, j ∈ vs := by decide) (hg : ∀ i, Gl (F i) "all" := by intro _; rfl) (hs : ∀ i v, genFold iter (F i).env v = pure v := by intro _ _; rfl) (hs2 : ∀ i (s : Shared) (code : Value) x, foldedSetIterable iter2 (gxEnv (F i) scope s code) x = pure x := by intro _ _ _ _; rfl)
    (he : ∀ i, starEach [gxTwo elt tg iter tg2 iter2 scope gpos] (F i).env = (false, eval (gxTwo elt tg iter tg2 iter2 scope gpos) (F i).env) :: starEach [] (F i).env := by intro _; rfl) (hb : bootBuiltins "all" = some (.builtin "all") := by first | exact boot_all | decide +kernel) :
    DW F K B Γ O (.Call (.Name "all" p) [gxTwo elt tg iter tg2 iter2 scope gpos] [] pos) rBool Φ := by
  intro σ G H W Q q
  refine ⟨tGx2 P0 (WI F tg iter) (WG (gxF F k scope) tg) (WI (gxF F k scope) tg2 iter2) (WG (gxF F k scope) tg2) (WE (gxF F k scope) elt) (own.map fun p : Str × Nat => p.2) vs2 false, fun i => ?_, ?_⟩
  · obtain ⟨c, tb1, tb2⟩ := tb i
    exact pe_gxAll2 (fam.rm i) (hg i) (by rw [fam.mg i]; exact hm) hb tb1 tb2 (ok i) (fam.nd i) (fam.cm i) (by intro j hj; rw [show (own.map fun p : Str × Nat => p.2) = vs from hv]; exact hvs j hj) (hs2 i) (WI.pi i) (fun A' s H code fp hr => WG.pg (F := gxF F k scope) (i, ⟨A', hr⟩, s, H, code, fp)) (fun A' s H code fp hr => WI.pi (F := gxF F k scope) (i, ⟨A', hr⟩, s, H, code, fp)) (fun A' s H code fp hr => WG.pg (F := gxF F k scope) (i, ⟨A', hr⟩, s, H, code, fp)) (fun A' s H code fp hr => WE.pe (F := gxF F k scope) (i, ⟨A', hr⟩, s, H, code, fp)) (hs i) (he i)
  · refine gx_want2 (ra := ra) (rb := rb) (l := l) (f := f) (st := false) (Φ := Φ) own vs vs2 P0 hP0 (js := js) (js2 := js2) ?_ hv hjs hjs2 W fun b O' G' H' kk W' e' => q b O' (.bl b) G' H' kk W' e' rfl
    intro σ1 G1 H1 W1 R1 q1
    refine h σ1 G1 H1 W1 R1 fun xs J O1 G2 H2 ⟨e1, e2, e3⟩ gv W2 e4 => q1 xs J O1 G2 H2 ⟨e1, e2, fun z => ?_, fun z => ?_⟩ gv W2 e4
    · have : (xs.all fun x => (l x).all (f x)) = false := by simpa using z
      rw [this] at e3
      exact e3
    · have : (xs.all fun x => (l x).all (f x)) = true := by simpa using z
      rw [this] at e3
      exact e3
end
end Sk


set_option Elab.async false
set_option linter.all false
set_option maxRecDepth 100000
set_option maxHeartbeats 4100000
/-! Sk36: defs that make generators: their code, their table; the end with tables. -/
namespace Sk
open PySem L2 Evl PySem.Spec PyProof.Rows
open GxR (TabB TabG Tabbed)
def gxB (N : List Str) (sc scope : Scope) (own : List (Str × Nat)) : Bool := blkC N sc scope own && (!scope.isCoroutine && (scope.names.all (fun y => match y.2 with | .cell => false | _ => true) && match scope.names.lookup (".0" : Str) with | some .local => true | _ => false))
theorem gxOk_by {N : List Str} {sc scope : Scope} {own : List (Str × Nat)} (h : gxB N sc scope own = true) : GxOk N sc scope own := by
  unfold gxB at h
  rw [Bool.and_eq_true, Bool.and_eq_true, Bool.and_eq_true] at h
  obtain ⟨h1, h2, h3, h4⟩ := h
  refine ⟨blkOk_by h1, by simpa using h2, fun y hy e => ?_, ?_⟩
  · have q := List.all_eq_true.mp h3 y hy
    rw [e] at q
    cases q
  · split at h4
    · assumption
    · cases h4
/-- the code object and the table of a def -/
structure Tf {K : Fg} {mg : Str → Option Value} {n : Str} {st : Stmt} {ps : List Str} (D : Df K mg n st ps) where
  c : Addr
  P0 : Addr
  hc : D.fd.code = .ref c
section
variable {P : Program} {w : World} {K : Fg} {mg : Str → Option Value} {base : Heap} {α β : Type} {ra : RpF α} {rb : Rp β} {pre : α → Prop} {own : α → List Own} {post : α → β → List Own → Prop} {k : Nat}
theorem fun_okC {x qual : Str} {st : Stmt} {f c : Addr} {fd : FuncData} {N ps : List Str} {sp : Sp} (F : Fun K x qual st f fd) (hc : fd.code = .ref c) (S : FnScope N ps (defScope st)) (len : ∀ vs H Q E, sp vs H Q E → vs.length = ps.length)
    (hbody : ∀ (A : Around) (outer : List Env) (s : Shared) (H : Hp) (vs : List V) (Q : VK) (E : XK), Room k (A.deeper (envOfC qual (defScope st) s.heap.objs.size f (.ref c))) → sp vs H Q E →
      ∃ t, PSs (cxOf CX0 P w K mg base N qual (defScope st) f (.ref c) A outer s H E).nox (defBody st) t ∧ t { nx := fun _ H' => Q .non H', rt := Q } (start N vs) H) : FnOk P w K mg base CX0 (k + 1) f fd ps sp := by
  obtain ⟨oc, od, kV, doc, pm, an, cdv, ct, osl, rfl, lk, hcd⟩ := F.ex
  have e : cdv = .ref c := hc
  subst e
  refine fn_of lk hcd S len fun A outer s H vs Q E hr hsp => ?_
  obtain ⟨t, h, q⟩ := hbody A outer s H vs Q E hr hsp
  exact ⟨t, h.nox, q⟩
/-- as fn_m, the def's code object known -/
theorem fn_g {x qual : Str} {st : Stmt} {f c : Addr} {fd : FuncData} {N ps : List Str} {m : Nat} {g : α → Gm} [hl : Len ra m] [ha : Args ra g]
    (F : Fun K x qual st f fd) (hc : fd.code = .ref c) (S : FnScope N ps (defScope st)) (T : List Addr)
    (h : ∀ (A : Around) (outer : List Env) (s : Shared) (G H : Hp) (E : XK) (x : α) (Q : VK), Fam (Us (Xf P w K mg base N qual st f (.ref c) A outer s H E)) P w K mg base k → pre x →
      (∀ {Γ : Gm} {O' : List Own} {y : β}, post x y O' → RT K ⟨T, (own x).map (·.a), G, H, []⟩ Γ O' rb y { nx := fun _ H' => Q .non H', rt := Q }) →
      DS (Xf P w K mg base N qual st f (.ref c) A outer s H E) K ⟨T, (own x).map (·.a), G, H, []⟩ (g x ++ List.replicate (N.length - m) none) (own x) (defBody st) { nx := fun _ H' => Q .non H', rt := Q }) (hm : m = ps.length := by rfl) :
    FnOk P w K mg base CX0 (k + 1) f fd ps (spM K T ra pre own rb post) := by
  refine fun_okC F hc S (fun vs H Q E ⟨G, x, _, _, r, _⟩ => by rw [hl.len r]; exact hm) fun A outer s H vs Q E hr ⟨G, x, sub, tab, r, hp, ho, hn, q⟩ => ?_
  have fam : Fam (Us (Xf P w K mg base N qual st f (.ref c) A outer s H E)) P w K mg base k := ⟨fun _ => rfl, fun _ => rfl, fun _ => rfl, fun _ => rfl, fun _ => rfl, fun _ => hr, fun _ => rfl, fun _ => S.nd⟩
  have hx := h A outer s G H E x Q fam hp (fun {Γ O' y} hpost v σ G' H' W rv => q v y O' G' H' W.st (fun w hw => let ⟨a, b, c, d⟩ := W.own w hw; ⟨a, b, c, d⟩) W.nd rv hpost)
  refine hx (L2.start N vs) G H ⟨Stp.refl sub, tab, fun _ z => absurd z (by simp), ?_, fun w hw => ?_, hn, fun c hc => ?_⟩
  · have e := ha.env (m := N.length - m) r
    unfold L2.start
    rw [hl.len r]
    exact e
  · obtain ⟨a, b, c⟩ := ho w hw
    exact ⟨a, b, c, .inr (List.mem_map.mpr ⟨w, hw, rfl⟩)⟩
  · obtain ⟨w, hw, e⟩ := List.mem_map.mp hc
    obtain ⟨⟨o, a, _⟩, _⟩ := ho w hw
    show H c ≠ none
    rw [← e, a]
    simp
/-- the tables of all defs that make generators -/
structure Tbs (base : Heap) (mg : Str → Option Value) {n : Str} {st : Stmt} {ps : List Str} {D : Df K mg n st ps} (t : Tf D) : Prop where
  tb : TabB base mg t.c t.P0
theorem tabF {qual : Str} {st : Stmt} {f c P0 : Addr} {N : List Str} {A : Around} {outer : List Env} {s : Shared} {H : Hp} {E : XK} (tb : TabB base mg c P0) : TabF (Us (Xf P w K mg base N qual st f (.ref c) A outer s H E)) P0 := fun _ => ⟨c, tb, rfl⟩
end
/-- the head's list, the tables empty -/
theorem start_tabs {K : Fg} {H : Hp} {T : List Addr} (hT : ∀ P ∈ T, H P = some (.tbl #[])) {a : Addr} {ns : List Int} (hS : SqL K H a (ns.map V.int)) (hK : ∀ P ∈ T, K.lookup P = none) :
    ∃ G : Hp, Ex G H ∧ (∀ P ∈ T, (∃ ps, H P = some (.tbl ps) ∧ TriplesOk ps.toList) ∧ G P = none) ∧ SqL K G a (ns.map V.int) := by
  classical
  refine ⟨fun b => if b ∈ T then none else H b, fun b o e => ?_, fun P hP => ⟨⟨#[], hT P hP, trivial⟩, if_pos hP⟩, ?_⟩
  · have e : (if b ∈ T then none else H b) = some o := e
    by_cases hb : b ∈ T
    · rw [if_pos hb] at e
      cases e
    · rw [if_neg hb] at e
      exact e
  · have hne : ∀ o, H a = some o → (∀ ps, o ≠ .tbl ps) → (if a ∈ T then none else H a) = some o := fun o e n => by
      rw [if_neg fun z => n #[] (Option.some.inj (e.symm.trans (hT a z)))]
      exact e
    rcases hS with h | h
    · left
      rcases h with h | h
      · exact .inl (hne _ h fun _ z => by cases z)
      · obtain ⟨o, h⟩ := h
        exact .inr ⟨o, hne _ h fun _ z => by cases z⟩
    · exact .inr h
/-- THE END, with tables -/
theorem walk_tabs {l : PySem.W.OpenLaw} {q : Program} {loose : List Str} {XP : (Str → Option Value) → Heap → Prop} {YP : World → Heap → Prop} {d : DefRec} {K : Params → PySem.W.Frag} {k : Nat} {x : Str} {ts : List Addr} (hn : l.most = some 63) (hdf : d.params.defaults = []) (hr : Room k callerA)
    (hY : ∀ (w : World) (h : Heap), YP w h → (K w.params).In h) (hT : ∀ (w : World) (h : Heap), YP w h → ∀ P ∈ ts, h.get? P = some { cls := .none, data := .fields #[] })
    (F : ∀ (w : World) (mg : Str → Option Value) (fa : Addr) (h : Heap), (K w.params).In h → h.Ns mainGlobals mg → mg d.name = some (.ref fa) →
      ∃ (fd : FuncData) (cs : List (Addr × Addr)), (∀ p ∈ cs, p.2 ∈ ts) ∧ (∀ p ∈ cs, (K w.params).lookup p.2 = none) ∧ (∀ p ∈ cs, PySem.W.codeHdIn (K w.params) p.1 p.2 = true) ∧ (∀ (s : Shared) (u : Value), BindsTo s fd ⟨[u], []⟩ [(x, u)]) ∧
        ∀ base : Heap, (K w.params).In base → base.Ns mainGlobals mg → (∀ p ∈ cs, TabB base mg p.1 p.2) → FnOk l.prog w (K w.params) mg base CX0 k fa fd [x] (sp0 (K w.params) (cs.map (·.2)) (fOne (rSeq rInt)) (fun ns => ns.length ≤ 63) rBool fun _ y => y = true)) :
    PySem.W.WalkO q loose XP YP l.row.toRowW d [] (fun f vs => PySem.call f vs) := by
  refine LamX.walk_ofTs (n := 63) (k := k) (x := x) (CX := fun _ => CX0) hn (by decide) hdf hr hY (fun w mg fa h Y KX G hmg => ?_) fun _ _ _ _ _ z => z
  obtain ⟨fd, cs, h1, h2, h3, h4, h5⟩ := F w mg fa h KX G hmg
  refine ⟨fd, cs, _, fun p hp => hT w h Y _ (h1 p hp), h2, fun p hp => PySem.W.codeHd_of_K KX (h3 p hp), h4, fun H a ns hl _ hTb hS => ?_, fun base kx g tb => h5 base kx g fun p hp => ⟨(tb p hp).code, (tb p hp).bm, (tb p hp).gP⟩⟩
  obtain ⟨G0, e0, t0, s0⟩ := start_tabs (T := cs.map (·.2)) (fun P hP => by
    obtain ⟨p, hp, e⟩ := List.mem_map.mp hP
    rw [← e]
    exact hTb p hp) hS (fun P hP => by
    obtain ⟨p, hp, e⟩ := List.mem_map.mp hP
    rw [← e]
    exact h2 p hp)
  exact ⟨G0, ns, e0, t0, ⟨.ref a, rfl, a, ns.map V.int, rfl, s0, All2.of_int ns⟩, hl, fun v hv => absurd hv (by simp), List.nodup_nil, fun v y O' G' H' _ _ _ r p => by
      have r' : v = .bl y := r
      rw [r', show y = true from p.2]⟩
end Sk


set_option Elab.async false
set_option linter.all false
set_option maxRecDepth 100000
set_option maxHeartbeats 4100000
/-! Sk37: the end by a Hook that tells the defs by name, their tables too. -/
namespace Sk
open PySem L2 Evl PySem.Spec PyProof.Rows
section
variable {K : Fg} {mg : Str → Option Value} {h : Heap} {fa : List He.Fa} {fn : List He.DefD}
abbrev dD (n : Str) (st : Stmt) : He.DefD := ⟨(n, none), n, n, defArgs st, defBody st, defScope st, [], []⟩
theorem fun_ofD {x qual : Str} {st : Stmt} {f : Addr} {fd : FuncData} (F : FunD K x qual (defArgs st) (defBody st) (defScope st) [] [] f fd) : Fun K x qual st f fd := by
  obtain ⟨oc, od, dV, kV, doc, pm, an, cdv, ct, osl, e, lk, hcd, hd, _⟩ := F.ex
  rcases hd with ⟨_, z⟩ | ⟨z, _⟩
  · subst z
    exact ⟨⟨oc, od, kV, doc, pm, an, cdv, ct, osl, e, lk, hcd⟩, F.kp⟩
  · exact absurd rfl z
/-- a def as the head tells it -/
theorem df_of (c : He.SaysD fa fn K) (X : K.In h) (G : h.Ns mainGlobals mg) (i j : Nat) {n : Str} {st : Stmt} {ps : List Str} (hi : fn[i]? = some (dD n st)) (hj : fa[j]? = some (.glo n))
    (hb : ∀ (f : Addr) (fd : FuncData), Fun K n n st f fd → Binds K fd ps []) : ∃ D : Df K mg n st ps, D.fd.code = .ref (He.codeOf K (n, none)) ∧ FunD K n n (defArgs st) (defBody st) (defScope st) [] [] D.f D.fd := by
  obtain ⟨fd, F⟩ := c.def_ i (d := dD n st) hi
  have F1 := fun_ofD F
  refine ⟨⟨He.fAd K (n, none), fd, F1, He.glo_ok X G (c.fact j (f := .glo n) hj), hb _ _ F1⟩, ?_, F⟩
  obtain ⟨oc, od, dV, kV, doc, pm, an, cdv, ct, osl, e, lk, hcd, _, _⟩ := F.ex
  obtain ⟨cc, e2⟩ := He.codeIn_ref hcd
  have e3 : fd.code = .ref cc := by rw [e, e2] <;> rfl
  rw [He.codeOf_eq (p := (n, none)) lk e3]
  exact e3
end
/-- THE END, with tables, the part of the heap told by the Hook -/
theorem walk_tabsE {l : PySem.W.OpenLaw} {q : Program} {loose : List Str} {XP : (Str → Option Value) → Heap → Prop} {YP : World → Heap → Prop} {d : DefRec} {k : Nat} {x : Str} (hn : l.most = some 63) (hdf : d.params.defaults = []) (hr : Room k callerA)
    (F : ∀ (w : World) (mg : Str → Option Value) (fa : Addr) (h : Heap), YP w h → h.Ns mainGlobals mg → mg d.name = some (.ref fa) →
      ∃ (K : Fg) (fd : FuncData) (cs : List (Addr × Addr)), K.In h ∧ (∀ p ∈ cs, h.get? p.2 = some { cls := .none, data := .fields #[] }) ∧ (∀ p ∈ cs, K.lookup p.2 = none) ∧ (∀ p ∈ cs, PySem.W.codeHdIn K p.1 p.2 = true) ∧ (∀ (s : Shared) (u : Value), BindsTo s fd ⟨[u], []⟩ [(x, u)]) ∧
        ∀ base : Heap, K.In base → base.Ns mainGlobals mg → (∀ p ∈ cs, GxR.TabB base mg p.1 p.2) → FnOk l.prog w K mg base CX0 k fa fd [x] (sp0 K (cs.map (·.2)) (fOne (rSeq rInt)) (fun ns => ns.length ≤ 63) rBool fun _ y => y = true)) :
    PySem.W.WalkO q loose XP YP l.row.toRowW d [] (fun f vs => PySem.call f vs) := by
  refine LamX.walk_ofTsE (n := 63) (k := k) (x := x) (CX := fun _ => CX0) hn (by decide) hdf hr (fun w mg fa h Y G hmg => ?_) fun _ _ _ _ _ z => z
  obtain ⟨K, fd, cs, KX, h1, h2, h3, h4, h5⟩ := F w mg fa h Y G hmg
  refine ⟨K, KX, fd, cs, _, h1, h2, fun p hp => PySem.W.codeHd_of_K KX (h3 p hp), h4, fun H a ns hl _ hTb hS => ?_, fun base kx g tb => h5 base kx g fun p hp => ⟨(tb p hp).code, (tb p hp).bm, (tb p hp).gP⟩⟩
  obtain ⟨G0, e0, t0, s0⟩ := start_tabs (T := cs.map (·.2)) (fun P hP => by
    obtain ⟨p, hp, e⟩ := List.mem_map.mp hP
    rw [← e]
    exact hTb p hp) hS (fun P hP => by
    obtain ⟨p, hp, e⟩ := List.mem_map.mp hP
    rw [← e]
    exact h2 p hp)
  exact ⟨G0, ns, e0, t0, ⟨.ref a, rfl, a, ns.map V.int, rfl, s0, All2.of_int ns⟩, hl, fun v hv => absurd hv (by simp), List.nodup_nil, fun v y O' G' H' _ _ _ r p => by
      have r' : v = .bl y := r
      rw [r', show y = true from p.2]⟩
end Sk


set_option Elab.async false
set_option linter.all false
set_option maxRecDepth 100000
set_option maxHeartbeats 4100000
/-! Sk38: min(..) of a generator expression over ints (raw). -/
namespace Sk
open PySem L2 Evl PyProof.Rows GenW
open GxR (TabB TabG Tabbed inv_tab)
/-- what min's own list holds -/
def BestAt (h : Heap) (S : Addr) (b : Option Int) : Prop := ∃ (c : Nat), match b with
  | none => h.get? S = some { cls := .type "list", dict := none, data := .seq #[] c, slots := #[] }
  | some k => ∃ t t', h.get? S = some { cls := .type "list", dict := none, data := .seq #[.int k t, .int k t'] c, slots := #[] }
def mnV (b : Option Int) (k : Int) : Int := match b with
  | none => k
  | some j => if k < j then k else j
def betV (b : Option Int) (k : Int) : Bool := match b with
  | none => true
  | some j => decide (k < j)
section
variable {prog : Program} {w : World} {A : Around} {E : Value → Shared → Prop}
theorem lt_ints {i j : Int} {t t' : Tok} {s : Shared} {Q : Value → Shared → Prop} (h : Q (.bool (decide (i < j))) s) : wpAny (model prog w) A (richCompare .Lt (.int i t) (.int j t')) Q E s :=
  CmpOf.ints_lt (P := fun n v => ∃ u, v = .int (if n = 0 then i else j) u) (fun n => if n = 0 then i else j) (fun _ _ z => z) 0 1 _ _ s Q E ⟨t, rfl⟩ ⟨t', rfl⟩ h
theorem min_inv {I S : Addr} {R : Result → Shared → Prop} (J : Nat → Option Int → Shared → Prop)
    (turn : ∀ m b s, J m b s → BestAt s.heap S b ∧ wpAny (model prog w) A.in1 (pyNext (.ref I)) (fun r s1 => BestAt s1.heap S b ∧ ((r = none ∧ ∃ k, b = some k ∧ ∀ t, R (.ok (.ret (.int k t))) { s1 with heap := s1.heap.update S (Obj.mapSeq fun _ => #[]) }) ∨
      ∃ k t, r = some (.int k t) ∧ ∃ m', m' < m ∧ (betV b k = true → J m' (some k) { s1 with heap := s1.heap.update S (Obj.mapSeq fun _ => #[.int k t, .int k t]) }) ∧ (betV b k = false → J m' b s1))) (fun _ _ => False) s) :
    ∀ (m : Nat) (b : Option Int) (s : Shared), J m b s → codeAny (model prog w) A (.builtin "min.loop" ⟨[.ref I, .none, .ref S], []⟩) R s := by
  have hname : (toString "min" ++ toString ".loop" : String) = "min.loop" := by decide
  intro m
  induction m using Nat.strongRecOn with
  | ind m ih =>
    intro b s hJ
    obtain ⟨hb, ht⟩ := turn m b s hJ
    refine codeAny_builtin F.entry_min_loop ?_
    rw [Around.under_plainId F.plain_min_loop _]
    show wpAny _ A.in1 (seqItems? (.ref S) >>= _) _ _ s
    cases b with
    | none =>
      obtain ⟨c, hS⟩ := hb
      refine wpAny_bind (wpAny_seqItems hS rfl ?_)
      show wpAny _ A.in1 (tryCatch (pyNext (.ref I)) _ >>= _) _ _ s
      refine wpAny_bind (wpAny_tryCatch (wpAny_mono ht (fun r s1 h => ?_) fun _ _ z => z.elim))
      obtain ⟨⟨c1, hS1⟩, h⟩ := h
      rcases h with ⟨e, k, e2, _⟩ | ⟨k, t, e, m', hm, h1, _⟩
      · cases e2
      · subst e
        show wpAny _ A.in1 (updateSeq S (fun _ => #[.int k t, .int k t]) >>= _) _ _ _
        refine wpAny_bind (wpAny_updateSeq hS1 rfl ?_)
        rw [hname]
        exact wpAny_pure ⟨plainId_quiet F.plain_min_loop _, ih m' hm _ _ (h1 rfl)⟩
    | some j =>
      obtain ⟨c, tj, tj', hS⟩ := hb
      refine wpAny_bind (wpAny_seqItems hS rfl ?_)
      show wpAny _ A.in1 (tryCatch (pyNext (.ref I)) _ >>= _) _ _ s
      refine wpAny_bind (wpAny_tryCatch (wpAny_mono ht (fun r s1 h => ?_) fun _ _ z => z.elim))
      obtain ⟨⟨c1, u1, u2, hS1⟩, h⟩ := h
      rcases h with ⟨e, k, e2, hR⟩ | ⟨k, t, e, m', hm, h1, h2⟩
      · subst e
        cases e2
        show wpAny _ A.in1 (updateSeq S (fun _ => #[]) >>= _) _ _ _
        exact wpAny_bind (wpAny_updateSeq hS1 rfl (wpAny_bind (wpAny_letGo (wpAny_pure (hR _)))))
      · subst e
        show wpAny _ A.in1 (tryCatch (holding [.int k t, .int k t] (richCompare .Lt (.int k t) (.int j tj') >>= _)) _ >>= _) _ _ _
        refine wpAny_bind (wpAny_tryCatch (wpAny_holding (wpAny_bind (lt_ints ?_))))
        refine wpAny_bind (wpAny_holding (wpAny_truthy_bool ?_))
        refine wpAny_bind (wpAny_letGo (wpAny_pure ?_))
        cases hb : decide (k < j) with
        | true =>
          simp only [if_true]
          refine wpAny_bind (wpAny_updateSeq hS1 rfl (wpAny_bind (wpAny_letGo ?_)))
          rw [hname]
          exact wpAny_pure ⟨plainId_quiet F.plain_min_loop _, ih m' hm _ _ (h1 hb)⟩
        | false =>
          simp only [Bool.false_eq_true, if_false]
          refine wpAny_bind (wpAny_letGo ?_)
          rw [hname]
          exact wpAny_pure ⟨plainId_quiet F.plain_min_loop _, ih m' hm _ _ (h2 hb)⟩
theorem call_minI {a gi : Addr} {s : Shared} {Q : Value → Shared → Prop} (hg : s.heap.IsGen a gi) (J : Nat → Option Int → Shared → Prop)
    (turn : ∀ m b s1, J m b s1 → BestAt s1.heap s.heap.objs.size b ∧ wpAny (model prog w) A.in1 (pyNext (.ref a)) (fun r s2 => BestAt s2.heap s.heap.objs.size b ∧ ((r = none ∧ ∃ k, b = some k ∧ ∀ t, Q (.int k t) { s2 with heap := s2.heap.update s.heap.objs.size (Obj.mapSeq fun _ => #[]) }) ∨
      ∃ k t, r = some (.int k t) ∧ ∃ m', m' < m ∧ (betV b k = true → J m' (some k) { s2 with heap := s2.heap.update s.heap.objs.size (Obj.mapSeq fun _ => #[.int k t, .int k t]) }) ∧ (betV b k = false → J m' b s2))) (fun _ _ => False) s1)
    {m : Nat} (hJ : J m none { s with heap := s.heap.push { cls := .type "list", data := .seq #[] } }) : wpAny (model prog w) A (call (.builtin "min") [.ref a]) Q E s := by
  have hname : (toString "min" ++ toString ".loop" : String) = "min.loop" := by decide
  refine call_function_tree F.kind_min F.plain_min F.entry_min (F.args_min1 _) ?_
  show wpAny _ A.in1 (Builtin.Builtins.bindParams "min" ["key", "default"] 0 ⟨[], []⟩ >>= _) _ _ s
  refine wpAny_bind (wpAny_of_eq (show Builtin.Builtins.bindParams "min" ["key", "default"] 0 ⟨[], []⟩ = pure [none, none] from rfl) ?_)
  refine wpAny_bind (wpAny_pure (wpAny_bind (wpAny_pyIter_gen hg ?_)))
  refine wpAny_bind (wpAny_newObj_type ?_)
  rw [hname]
  refine wpAny_pure ⟨plainId_quiet F.plain_min_loop _, min_inv J (fun m b s1 h => ?_) m none _ hJ⟩
  obtain ⟨h1, h2⟩ := turn m b s1 h
  refine ⟨h1, wpAny_mono h2 (fun r s2 z => ?_) fun _ _ z => z⟩
  obtain ⟨z1, z2⟩ := z
  refine ⟨z1, ?_⟩
  rcases z2 with ⟨e, k, e2, q⟩ | q
  · exact .inl ⟨e, k, e2, fun t => by simpa using q t⟩
  · exact .inr q
end
end Sk


set_option Elab.async false
set_option linter.all false
set_option maxRecDepth 100000
set_option maxHeartbeats 4100000
/-! Sk39: min(..) of a generator expression, one clause, as a rule. -/
namespace Sk
open PySem L2 Evl PyProof.Rows GenW
open GxR (TabB TabG Tabbed inv_tab)
def lsB : Option Int → List V
  | none => []
  | some k => [.int k, .int k]
/-- bs: the best of the first i -/
def GxWantM (J : It) (g : TG) (te : TE) (σw : L2.St) (vs : List Nat) (Q : VK) (H2 : Hp) : Prop :=
  ∀ Sb, H2 Sb = none → ∃ (n : Nat) (bs : Nat → Option Int) (C : Nat → Hp → Prop), bs 0 = none ∧ C 0 (upd H2 Sb (.lst [])) ∧ ∀ i H, C i H → H Sb = some (.lst (lsB (bs i))) ∧ ((i = n ∧ J.stop i H ∧ ∃ k, bs i = some k ∧ Q (.int k) (upd H Sb (.lst []))) ∨
    (i < n ∧ J.go i H ∧ ∀ x H1, J.yld i H x H1 → g x σw H1 fun σ2 H2 => wipe σ2 vs = σw ∧ te σ2 H2 fun y H3 => ∃ k, y = .int k ∧ H3 Sb = some (.lst (lsB (bs i))) ∧ bs (i + 1) = some (mnV (bs i) k) ∧ C (i + 1) (upd H3 Sb (.lst (lsB (bs (i + 1)))))))
def tGxM (P : Addr) (wi : TI) (g : TG) (te : TE) (vs : List Nat) : TE := fun σ H Q => wi σ H fun J H1 => TabG H1 P ∧ ∀ H2, Tabbed P H1 H2 → GxWantM J g te (wipe σ vs) vs Q H2
section
variable {X : Cx} {pins : List (Addr × Obj)} {σ : L2.St} {H : Hp} {s : Shared}
theorem bestAt_of {Sb : Addr} {b : Option Int} (I : Inv X pins σ H s) (h : H Sb = some (.lst (lsB b))) : BestAt s.heap Sb b := by
  obtain ⟨its, n, r, e, _⟩ := I.lst h
  cases b with
  | none =>
    cases r
    exact ⟨n, e⟩
  | some k =>
    cases r with
    | cons r1 t =>
      cases t with
      | cons r2 t2 =>
        cases t2
        obtain ⟨u1, h1⟩ := r1
        obtain ⟨u2, h2⟩ := r2
        subst h1 h2
        exact ⟨n, u1, u2, e⟩
/-- min's list is written anew -/
theorem best_put {Sb : Addr} {b : Option Int} {ys : List V} {its' : List Value} (I : Inv X pins σ H s) (h : H Sb = some (.lst (lsB b))) (hv : Vals ys its') (hz : ys.length ≤ sizeLine) :
    Inv X pins σ (upd H Sb (.lst ys)) { s with heap := s.heap.update Sb (Obj.mapSeq fun _ => its'.toArray) } := by
  obtain ⟨its, n, r, e, _⟩ := I.lst h
  exact I.lset (t' := s.toks) h e (f := fun _ => its'.toArray) rfl hv hz
theorem BestAt.put {h : Heap} {S : Addr} {b : Option Int} (hb : BestAt h S b) (k : Int) (t : Tok) : ∃ c : Nat, BestAt (h.update S (Obj.mapSeq fun _ => #[.int k t, .int k t])) S (some k) := by
  cases b with
  | none =>
    obtain ⟨c, e⟩ := hb
    exact ⟨c, _, t, t, Heap.get?_update_self _ e rfl⟩
  | some j =>
    obtain ⟨c, u1, u2, e⟩ := hb
    exact ⟨c, _, t, t, Heap.get?_update_self _ e rfl⟩
theorem upd_id {H : Hp} {a : Addr} {o : HO} (h : H a = some o) : upd H a o = H := funext fun b => by
  by_cases z : b = a
  · rw [z, upd_same, h]
  · exact upd_ne z
theorem mn_bet {b : Option Int} {k : Int} (h : betV b k = true) : mnV b k = k := by
  cases b with
  | none => rfl
  | some j => exact if_pos (of_decide_eq_true h)
theorem mn_not {b : Option Int} {k : Int} (h : betV b k = false) : some (mnV b k) = b := by
  cases b with
  | none => cases h
  | some j => exact congrArg some (if_neg (of_decide_eq_false h))
variable {c P : Addr} {elt tg iter : Expr} {gpos pos p : Pos} {scope : Scope} {own : List (Str × Nat)} {wi : TI} {g : TG} {te : TE} {k : Nat} {Q : VK} {J : It} {H2 : Hp} {s5 : Shared}
theorem gx_runM (hr : Room (k + 1) X.A) (hc : X.calm = true) (ok : GxOk X.N X.env.scope scope own) (M : GxMade X pins σ own (gxOne elt tg iter scope gpos) tg scope J H2 s5)
    (pg : ∀ (A' : Around) (s : Shared) (H : Hp) (code : Value) (fp : List Addr), Room k A' → PG (gxX X A' s H (gxEnv X scope s code) fp) tg g) (pe : ∀ (A' : Around) (s : Shared) (H : Hp) (code : Value) (fp : List Addr), Room k A' → PE (gxX X A' s H (gxEnv X scope s code) fp) elt te)
    (hw : GxWantM J g te (wipe σ (own.map fun p : Str × Nat => p.2)) (own.map fun p : Str × Nat => p.2) Q H2) : wpAny (model X.prog X.w) X.A (call (.builtin "min") [.ref M.a]) (EP X pins σ Q) X.xe s5 := by
  have hS2 : H2 s5.heap.objs.size = none := M.I5.fresh
  obtain ⟨n, bs, C, b0, c0, step⟩ := hw _ hS2
  have z2 : 2 ≤ sizeLine := by decide
  have hroom := gx_room (it := M.it) (s4 := M.s4) (code := M.code) hr (e := gxOne elt tg iter scope gpos) rfl
  have hpn : (M.a, M.go) ∈ (gxZ X (gxOne elt tg iter scope gpos) scope M.s4 H2 M.code M.fp M.it).pn ++ [(M.a, M.go)] := List.mem_append_right _ (List.mem_singleton_self _)
  generalize hSb : s5.heap.objs.size = Sb at hS2 c0 step
  let Yd : Nat → V → Slp → Shared → Prop := fun m y S s => ∃ kk, y = .int kk ∧ BestAt s.heap Sb (bs (n - m)) ∧ bs (n - m + 1) = some (mnV (bs (n - m)) kk) ∧ (betV (bs (n - m)) kk = true → ∀ t, S { s with heap := s.heap.update Sb (Obj.mapSeq fun _ => #[.int kk t, .int kk t]) }) ∧ (betV (bs (n - m)) kk = false → S s)
  let Dn : Nat → Slp := fun m s => m = 1 ∧ ∃ H kk, bs n = some kk ∧ Inv X pins σ H s ∧ H Sb = some (.lst (lsB (some kk))) ∧ Q (.int kk) (upd H Sb (.lst []))
  have I6 : Inv (gxZ X (gxOne elt tg iter scope gpos) scope M.s4 H2 M.code M.fp M.it) [(M.a, M.go)] (wipe σ (own.map fun p : Str × Nat => p.2)) (upd H2 Sb (.lst [])) { s5 with heap := s5.heap.push { cls := .type "list", data := .seq #[] } } := by
    have := M.I5.lnew (ys := []) (its := []) (t' := s5.toks) .nil (Nat.zero_le _)
    rw [hSb] at this
    exact this
  have neFp : ∀ b ∈ M.fp, b ≠ Sb := fun b hb z => by
    have h1 := (M.nf b hb).2
    have h2 : M.s4.heap.objs.size < M.a := M.ga
    have h3 : M.a < s5.heap.objs.size := Heap.lt_size (M.I5.pin _ hpn).1
    rw [z, ← hSb] at h1
    exact Nat.lt_irrefl _ (Nat.lt_trans (Nat.lt_trans h1 h2) h3)
  have h6 : gxS (gxZ X (gxOne elt tg iter scope gpos) scope M.s4 H2 M.code M.fp M.it) [(M.a, M.go)] (wipe σ (own.map fun p : Str × Nat => p.2)) M.fp M.tn C 0 { s5 with heap := s5.heap.push { cls := .type "list", data := .seq #[] } } :=
    ⟨_, I6, M.T.keep _ _ _ M.st fun b _ o e => Heap.get?_push_of_some _ e, fun b hb => (upd_ne (neFp b hb)).trans (M.nf b hb).1.1, c0⟩
  have goes : ∀ s2, gxS (gxZ X (gxOne elt tg iter scope gpos) scope M.s4 H2 M.code M.fp M.it) [(M.a, M.go)] (wipe σ (own.map fun p : Str × Nat => p.2)) M.fp M.tn C 0 s2 → Seg (model X.prog X.w) X.A.in1.in1 (fun m a r b => r = .ok .next ∧ gxR Dn m a b) (gxY M.a M.go Yd) (n + 1) s2 (gx0 (gxOne elt tg iter scope gpos) 0 M.it (gxEnv X scope M.s4 M.code)) ((model X.prog X.w).den (gx0 (gxOne elt tg iter scope gpos) 0 M.it (gxEnv X scope M.s4 M.code))) [] s2 := fun s2 h2 => by
    refine gx_seg1 (Z := gxZ X (gxOne elt tg iter scope gpos) scope M.s4 H2 M.code M.fp M.it) (n := n) (C := C) (vs := own.map fun p : Str × Nat => p.2) (YH := fun i y H3 => ∃ kk, y = .int kk ∧ H3 Sb = some (.lst (lsB (bs i))) ∧ bs (i + 1) = some (mnV (bs i) kk) ∧ C (i + 1) (upd H3 Sb (.lst (lsB (bs (i + 1)))))) hc rfl (fun e s z => z) ok.co hpn M.T (pg _ _ _ _ _ hroom) (pe _ _ _ _ _ hroom) (gx_fpall M) (fun {σ2} e => by rw [← e, wipe_length]) (fun i H ci => ((step i H ci).2).imp (fun ⟨z1, z2, _⟩ => ⟨z1, z2⟩) fun z => z)
      (fun i y H s lt I st' nf ⟨kk, ey, hl, hb, cn⟩ => ?_) (fun s H I ci => ?_) s2 s2 h2
    · obtain ⟨h1, h2⟩ := step n H ci
      rcases h2 with ⟨_, _, kk, e, q⟩ | ⟨lt, _⟩
      · exact ⟨by omega, H, kk, e, gx_back M I, by rw [← e]; exact h1, q⟩
      · omega
    · have e : n - (n + 1 - (i + 1)) = i := by omega
      show ∃ kk, _
      rw [e]
      refine ⟨kk, ey, bestAt_of I hl, hb, fun hbt t => ?_, fun hbf => ?_⟩
      · rw [hb, mn_bet hbt] at cn
        exact ⟨_, best_put I hl (ys := [.int kk, .int kk]) (its' := [.int kk t, .int kk t]) (.cons ⟨t, rfl⟩ (.cons ⟨t, rfl⟩ .nil)) z2, M.T.keep _ _ _ st' fun b hb o e => (Heap.get?_update_other _ _ (Ne.symm (neFp b hb))).trans e, fun b hb => (upd_ne (neFp b hb)).trans (nf b hb), cn⟩
      · rw [show bs (i + 1) = bs i from hb.trans (mn_not hbf), upd_id hl] at cn
        exact ⟨H, I, st', nf, cn⟩
  subst hSb
  refine call_minI (M.gen _ (M.I5.pin _ hpn).1) (fun m b s1 => m ≤ n + 1 ∧ b = bs (n + 1 - m) ∧ BestAt s1.heap s5.heap.objs.size b ∧ GxLive X.prog X.w X.A.in1 M.a M.go Yd Dn M.gi m s1) (fun m b s1 hJ => ?_) (m := n + 1) ⟨Nat.le_refl _, by rw [Nat.sub_self, b0], ⟨0, Heap.get?_push_size _ rfl⟩, ⟨_, _, M.gs, gxS_ok hpn 0, h6, fun s2 h2 => ⟨rfl, goes s2 h2⟩⟩⟩
  obtain ⟨hm, eb, hba, live⟩ := hJ
  refine ⟨hba, wpAny_mono (gx_next (E := fun _ _ => False) (hr.in1).hd (hr.in1).depth M.gen (fun m s G h' ⟨e, H, kk, e2, I, hl, q⟩ hG hk => ⟨e, H, kk, e2, Inv.kept (s := { s with gens := G }) (t' := s.toks) (Inv.gens I hG) hk, hl, q⟩) (fun m y S s G so ⟨kk, e, hb, e2, q1, q2⟩ hG => ⟨kk, e, hb, e2, fun h t => so.gens _ G (q1 h t) hG, fun h => so.gens s G (q2 h) hG⟩) live) (fun r s2 hg => ?_) fun _ _ z => z⟩
  rcases hg with ⟨er, em, H, kk, ebn, I, hl, q⟩ | ⟨v, y, S, er, rv, ⟨kk, ey, hbb, hbn, q1, q2⟩, nx⟩
  · subst em
    have eb : b = some kk := eb.trans ebn
    subst eb
    exact ⟨bestAt_of I hl, .inl ⟨er, kk, rfl, fun t => ⟨.int kk, _, best_put I hl (ys := []) (its' := []) .nil (Nat.zero_le _), ⟨t, rfl⟩, q⟩⟩⟩
  · subst ey
    obtain ⟨t, ev⟩ := rv
    subst ev
    have hm0 : 0 < m := by
      cases hbt : betV (bs (n - (m - 1))) kk with
      | true => exact (nx _ (by exact rfl) (q1 hbt t)).1
      | false => exact (nx _ rfl (q2 hbt)).1
    have ei : n - (m - 1) = n + 1 - m := by omega
    have ei2 : n + 1 - (m - 1) = n + 1 - m + 1 := by omega
    rw [ei] at hbb hbn q1 q2
    rw [← eb] at hbb hbn q1 q2
    refine ⟨hbb, .inr ⟨kk, t, er, m - 1, by omega, fun h => ?_, fun h => ?_⟩⟩
    · obtain ⟨c1, hx⟩ := hbb.put kk t
      exact ⟨by omega, by rw [ei2, hbn, mn_bet h], hx, (nx _ (by exact rfl) (q1 h t)).2⟩
    · exact ⟨by omega, by rw [ei2, hbn, mn_not h], hbb, (nx _ rfl (q2 h)).2⟩
end
end Sk


set_option Elab.async false
set_option linter.all false
set_option maxRecDepth 100000
set_option maxHeartbeats 4100000
/-! Sk40: min(..) of a generator expression, typed. -/
namespace Sk
open PySem L2 Evl PyProof.Rows GenW
open GxR (TabB TabG Tabbed)
section
variable {X : Cx} {c P : Addr} {elt tg iter : Expr} {gpos pos p : Pos} {scope : Scope} {own : List (Str × Nat)} {wi : TI} {g : TG} {te : TE} {k : Nat}
theorem pe_gxMin (hr : Room (k + 1) X.A) (hg : Gl X "min") (hm : X.mg "min" = none) (hb : bootBuiltins "min" = some (.builtin "min")) (TB : TabB X.base X.mg c P) (hcode : X.env.code = .ref c) (ok : GxOk X.N X.env.scope scope own) (hN : X.N.Nodup) (hc : X.calm = true) (hi : PI X tg iter wi)
    (pg : ∀ (A' : Around) (s : Shared) (H : Hp) (code : Value) (fp : List Addr), Room k A' → PG (gxX X A' s H (gxEnv X scope s code) fp) tg g) (pe : ∀ (A' : Around) (s : Shared) (H : Hp) (code : Value) (fp : List Addr), Room k A' → PE (gxX X A' s H (gxEnv X scope s code) fp) elt te)
    (hs : ∀ v, genFold iter X.env v = pure v) (he : starEach [gxOne elt tg iter scope gpos] X.env = (false, eval (gxOne elt tg iter scope gpos) X.env) :: starEach [] X.env := by rfl) :
    PE X (.Call (.Name "min" p) [gxOne elt tg iter scope gpos] [] pos) (tGxM P wi g te (own.map fun p : Str × Nat => p.2)) := by
  refine ⟨fun pins s σ H Q I h => wpAny_Call_Name_kw (ld_blt I hg hm hb (PyProof.Rows.callWith_builtin1 ?_ he (by rfl)))⟩
  rw [he]
  show wpAny _ _ (spliced ((false, eval (gxOne elt tg iter scope gpos) X.env) :: backTo pos (starEach [] X.env))) _ _ s
  refine Calls.spliced_cons (gx_make (own := own) (R := fun J H2 => GxWantM J g te (wipe σ (own.map fun p : Str × Nat => p.2)) (own.map fun p : Str × Nat => p.2) Q H2) hr TB hcode ok hN hc hi hs I h fun J H2 s5 M hR => Calls.spliced_nil ?_)
  exact gx_runM hr hc ok M pg pe hR
end
def bL : Option Int → List Int
  | none => []
  | some k => [k, k]
def minO {α : Type} (f : α → Int) (xs : List α) : Option Int := xs.foldl (fun b x => some (mnV b (f x))) none
theorem ls_rep {K : Fg} {G : Hp} (b : Option Int) : (oLst rInt).rep K G (.lst (lsB b)) (bL b) := by
  cases b with
  | none => exact ⟨[], rfl, trivial⟩
  | some k => exact ⟨[.int k, .int k], rfl, rfl, rfl, trivial⟩
theorem ls_of {K : Fg} {G : Hp} {o : HO} {b : Option Int} (h : (oLst rInt).rep K G o (bL b)) : o = .lst (lsB b) := by
  obtain ⟨ws, e, h⟩ := h
  cases b with
  | none =>
    match ws, h with
    | [], _ => exact e
  | some k =>
    match ws, h with
    | [_, _], ⟨h1, h2, _⟩ =>
      rw [e, show _ = V.int k from h1, show _ = V.int k from h2]
      rfl
section
variable {ι : Type} {F : ι → Cx} {K : Fg} {B : Bs} {Γ : Gm} {O : List Own} {α : Type} {ra : Rp α} {e tg elt iter : Expr} {n : Str} {p pos gpos : Pos} {scope : Scope}
variable {P : Program} {w : World} {mg : Str → Option Value} {base : Heap} {k : Nat}
theorem d_gxMin [fam : Fam F P w K mg base (k + 1)] (own : List (Str × Nat)) (vs : List Nat) (P0 : Addr) (hP0 : P0 ∈ B.T) (tb : TabF F P0) (ok : ∀ i, GxOk (F i).N (F i).env.scope scope own) {Γ' : Gm} [hw : WipeG Γ vs Γ'] {js : List Nat} {f : α → Int} {Φ : Int → List Own → Prop} (hm : mg "min" = none)
    (h : DI F K B Γ O tg iter ra fun xs O1 => O1 = O ∧ (∀ gg D ys x, x ∈ xs → DG (gxF F k scope) K (B.push gg) Γ' (⟨D, oLst rInt, ys⟩ :: O) tg ra x js fun Γ2 => DW (gxF F k scope) K (B.push gg) Γ2 (⟨D, oLst rInt, ys⟩ :: O) elt rInt fun y O3 => y = f x ∧ O3 = ⟨D, oLst rInt, ys⟩ :: O) ∧ ∃ m, minO f xs = some m ∧ Φ m O)
    (hv : own.map (·.2) = vs := by rfl) (hjs : ∀ j ∈ js, j ∈ vs := by decide) (hg : ∀ i, Gl (F i) "min" := by intro _; rfl) (hs : ∀ i v, genFold iter (F i).env v = pure v := by intro _ _; rfl)
    (he : ∀ i, starEach [gxOne elt tg iter scope gpos] (F i).env = (false, eval (gxOne elt tg iter scope gpos) (F i).env) :: starEach [] (F i).env := by intro _; rfl) :
    DW F K B Γ O (.Call (.Name "min" p) [gxOne elt tg iter scope gpos] [] pos) rInt Φ := by
  intro σ G H W Q q
  refine ⟨tGxM P0 (WI F tg iter) (WG (gxF F k scope) tg) (WE (gxF F k scope) elt) (own.map fun p : Str × Nat => p.2), fun i => ?_, ?_⟩
  · obtain ⟨c, tb1, tb2⟩ := tb i
    exact pe_gxMin (fam.rm i) (hg i) (by rw [fam.mg i]; exact hm) bt_min tb1 tb2 (ok i) (fam.nd i) (fam.cm i) (WI.pi i) (fun A' s H code fp hr => WG.pg (F := gxF F k scope) (i, ⟨A', hr⟩, s, H, code, fp)) (fun A' s H code fp hr => WE.pe (F := gxF F k scope) (i, ⟨A', hr⟩, s, H, code, fp)) (hs i) (he i)
  refine h σ G H W _ fun xs J O1 G1 H1 ⟨e1, hst, m, hmin, hΦ⟩ gv W1 ee => ?_
  subst e1
  refine ⟨(W1.tab P0 hP0).1, fun H2 tb Sb hSb => ?_⟩
  have W2 := W1.tabbed hP0 tb
  rw [show (own.map fun p : Str × Nat => p.2) = vs from hv]
  have hG : ∀ {G' : Hp}, Ex G1 G' → EnvR K G' σ Γ := fun e => W.env.mono (ee.trans e)
  refine ⟨xs.length, fun i => minO f (xs.take i), fun i H => i ≤ xs.length ∧ ∃ G2, Ws K (B.push G1) Γ' (⟨Sb, oLst rInt, bL (minO f (xs.take i))⟩ :: O1) (wipe σ vs) G2 H, rfl, ⟨Nat.zero_le _, G1, (W2.base.env' (hw.env (hG (Ex.refl _)))).newOwn hSb (ls_rep none)⟩, ?_⟩
  rintro i H3 ⟨hi, G3, W3⟩
  have eb : Ex G1 G3 := W3.bs G1 List.mem_cons_self
  have hown : H3 Sb = some (.lst (lsB (minO f (xs.take i)))) := by
    obtain ⟨o, h1, h2⟩ := Ws.ownO (p := Sb) (r := oLst rInt) (x := bL (minO f (xs.take i))) (f := fun w => w :: O1) inferInstance W3
    rw [h1, ls_of h2]
  refine ⟨hown, ?_⟩
  by_cases hlt : i < xs.length
  · refine .inr ⟨hlt, gv.go i G3 H3 hlt eb W3.sub, fun v H4 y => ?_⟩
    obtain ⟨x, G4, hx, s4, r4⟩ := gv.yld i G3 H3 v H4 hlt eb W3.sub y
    have hnext : minO f (xs.take (i + 1)) = some (mnV (minO f (xs.take i)) (f x)) := by
      obtain ⟨h1, h2⟩ := List.getElem?_eq_some_iff.mp hx
      rw [List.take_succ_eq_append_getElem h1, h2]
      unfold minO
      rw [List.foldl_append]
      rfl
    refine hst G1 Sb _ x (List.mem_of_getElem? hx) (wipe σ vs) G4 H4 v (W3.step s4) r4 _ fun Γ2 σ2 q2 W4 wp => ⟨(wp vs hjs).trans wipe_wipe, ?_⟩
    refine q2 σ2 G4 H4 W4 _ fun b O5 u G5 H5 ⟨eb5, eo⟩ W5 e5 r5 => ?_
    subst eo
    have e15 : Ex G1 G5 := W5.bs G1 List.mem_cons_self
    have hown5 : H5 Sb = some (.lst (lsB (minO f (xs.take i)))) := by
      obtain ⟨o, h1, h2⟩ := Ws.ownO (p := Sb) (r := oLst rInt) (x := bL (minO f (xs.take i))) (f := fun w => w :: O1) inferInstance W5
      rw [h1, ls_of h2]
    refine ⟨b, r5, hown5, by show minO f (xs.take (i + 1)) = some (mnV (minO f (xs.take i)) b); rw [hnext, eb5], hlt, G5, ?_⟩
    exact (W5.env' (hw.env (hG e15))).mutO (r := oLst rInt) (x := bL (minO f (xs.take i))) (r' := oLst rInt) (f := fun w => w :: O1) (ls_rep _)
  · obtain rfl : i = xs.length := by omega
    refine .inl ⟨rfl, gv.stop G3 H3 eb W3.sub, m, by show minO f (xs.take xs.length) = some m; rw [List.take_length]; exact hmin, ?_⟩
    have W6 := (W3.mutO (p := Sb) (r := oLst rInt) (x := bL (minO f (xs.take xs.length))) (r' := oLst rInt) (x' := bL none) (f := fun w => w :: O1) (o := .lst []) (ls_rep none)).perm (O' := O1) (fun w hw => List.mem_cons_of_mem _ hw) fun z => (List.nodup_cons.mp z).2
    exact q m O1 (.int m) G3 _ hΦ (W6.unbase.env' (hG eb)) (ee.trans eb) rfl
end
end Sk


set_option Elab.async false
set_option linter.all false
set_option maxRecDepth 100000
set_option maxHeartbeats 4100000
/-! Sk41: one of two kinds of things; x in xs, data of any depth; == of such. -/
namespace Sk
open PySem L2 Evl
section
variable {α β γ : Type}
def rSum (ra : Rp α) (rb : Rp β) : Rp (α ⊕ β) := ⟨fun K G v x => match x with
  | .inl a => ra.rep K G v a
  | .inr b => rb.rep K G v b, fun {K G G' v x} e h => by
    cases x with
    | inl a => exact ra.mono e h
    | inr b => exact rb.mono e h⟩
instance notNonSum {ra : Rp α} {rb : Rp β} [ha : NotNon ra] [hb : NotNon rb] : NotNon (rSum ra rb) := ⟨fun {K G v x} h => by
  cases x with
  | inl a => exact ha.ne h
  | inr b => exact hb.ne h⟩
variable {ι : Type} {F : ι → Cx} {K : Fg} {B : Bs} {Γ : Gm} {O : List Own} {ra : Rp α} {rb : Rp β} {rc : Rp γ} {e : Expr}
theorem d_inl {Φ : α ⊕ β → List Own → Prop} (h : DW F K B Γ O e ra fun x O' => Φ (.inl x) O') : DW F K B Γ O e (rSum ra rb) Φ := fun σ G H W Q q =>
  h σ G H W Q fun x O' v G' H' kk W' e' hv => q (.inl x) O' v G' H' kk W' e' hv
theorem d_inr {Φ : α ⊕ β → List Own → Prop} (h : DW F K B Γ O e rb fun x O' => Φ (.inr x) O') : DW F K B Γ O e (rSum ra rb) Φ := fun σ G H W Q q =>
  h σ G H W Q fun x O' v G' H' kk W' e' hv => q (.inr x) O' v G' H' kk W' e' hv
theorem rt_inl {x : α} {D : Ends} (h : RT K B Γ O (rSum ra rb) (.inl x) D) : RT K B Γ O ra x D := fun v σ G H W rv => h v σ G H W rv
theorem rt_inr {x : β} {D : Ends} (h : RT K B Γ O (rSum ra rb) (.inr x) D) : RT K B Γ O rb x D := fun v σ G H W rv => h v σ G H W rv
variable {X : Cx} {D : Ends} {rest : List Stmt}
theorem s_inl (j : Nat) {x : α} {f : Option Slot → Gm} [hA : At Γ j (rSum ra rb) (.inl x)] [hg : SetG Γ j f] (h : DS X K B (f (some ⟨ra, x⟩)) O rest D) : DS X K B Γ O rest D := s_re (ra := rSum ra rb) (x := .inl x) (rb := ra) j (fun h => h) h
theorem s_inr (j : Nat) {x : β} {f : Option Slot → Gm} [hA : At Γ j (rSum ra rb) (.inr x)] [hg : SetG Γ j f] (h : DS X K B (f (some ⟨rb, x⟩)) O rest D) : DS X K B Γ O rest D := s_re (ra := rSum ra rb) (x := .inr x) (rb := rb) j (fun h => h) h
theorem d_perm {Φ : α → List Own → Prop} (h : DW F K B Γ O e ra fun x O1 => ∃ O2, O2.Perm O1 ∧ Φ x O2) : DW F K B Γ O e ra Φ := fun σ G H W Q q =>
  h σ G H W Q fun x O1 v G' H' ⟨O2, hp, kk⟩ W' e' hv => q x O2 v G' H' kk (W'.perm (fun w hw => hp.mem_iff.mp hw) fun z => ((hp.map (·.a)).nodup_iff).mpr z) e' hv
/-! ### == -/
/-- unlike data -/
class Unl (enc : α → PyData) (enc' : β → PyData) : Prop where
  ne : ∀ x y, PyData.eqv (enc x) (enc' y) = false
  en : ∀ x y, PyData.eqv (enc' y) (enc x) = false
abbrev encSum (enc : α → PyData) (enc' : β → PyData) : α ⊕ β → PyData := fun x => match x with
  | .inl a => enc a
  | .inr b => enc' b
abbrev goodSum (g : α → Prop) (g' : β → Prop) : α ⊕ β → Prop := fun x => match x with
  | .inl a => g a
  | .inr b => g' b
instance datSum {enc : α → PyData} {enc' : β → PyData} {n m : Nat} {good : α → Prop} {good' : β → Prop} [ha : Dat ra enc n good] [hb : Dat rb enc' m good'] [hu : Unl enc enc'] : Dat (rSum ra rb) (encSum enc enc') (max n m) (goodSum good good') where
  dp := fun {K G H v x} e h => by
    cases x with
    | inl a => exact ha.dp e h
    | inr b => exact hb.dp e h
  lay := fun {x} h => by
    cases x with
    | inl a => exact ha.lay h
    | inr b => exact hb.lay h
  dep := fun x => by
    cases x with
    | inl a => exact Nat.le_trans (ha.dep a) (Nat.le_max_left _ _)
    | inr b => exact Nat.le_trans (hb.dep b) (Nat.le_max_right _ _)
  eqv := fun x y => by
    cases x with
    | inl a =>
      cases y with
      | inl a' => exact (ha.eqv a a').trans ⟨fun h => by rw [h], fun h => by injection h⟩
      | inr b => exact ⟨fun h => (by rw [show PyData.eqv (encSum enc enc' (.inl a)) (encSum enc enc' (.inr b)) = false from hu.ne a b] at h; cases h), fun h => (by cases h)⟩
    | inr b =>
      cases y with
      | inl a => exact ⟨fun h => (by rw [show PyData.eqv (encSum enc enc' (.inr b)) (encSum enc enc' (.inl a)) = false from hu.en a b] at h; cases h), fun h => (by cases h)⟩
      | inr b' => exact (hb.eqv b b').trans ⟨fun h => by rw [h], fun h => by injection h⟩
abbrev encOpt (enc : α → PyData) : Option α → PyData := fun x => match x with
  | none => PyData.none
  | some y => enc y
instance (priority := low) datOpt {enc : α → PyData} {n : Nat} {good : α → Prop} [hr : Dat ra enc n good] [hu : Unl (fun _ : Unit => PyData.none) enc] : Dat (rOpt ra) (encOpt enc) n (fun x => ∀ y, x = some y → good y) where
  dp := fun {K G H v x} e h => by
    cases x with
    | none =>
      rw [show v = V.non from h]
      exact .non
    | some y => exact hr.dp e h.2
  lay := fun {x} h => by
    cases x with
    | none => rfl
    | some y => exact hr.lay (h y rfl)
  dep := fun x => by
    cases x with
    | none => exact Nat.zero_le _
    | some y => exact hr.dep y
  eqv := fun x y => by
    cases x with
    | none =>
      cases y with
      | none => exact ⟨fun _ => rfl, fun _ => rfl⟩
      | some b => exact ⟨fun h => (by rw [show PyData.eqv (encOpt enc none) (encOpt enc (some b)) = false from hu.ne () b] at h; cases h), fun h => (by cases h)⟩
    | some a =>
      cases y with
      | none => exact ⟨fun h => (by rw [show PyData.eqv (encOpt enc (some a)) (encOpt enc none) = false from hu.en () a] at h; cases h), fun h => (by cases h)⟩
      | some b => exact (hr.eqv a b).trans ⟨fun h => by rw [h], fun h => by injection h⟩
instance unlNT {enc : α → List PyData} : Unl (fun _ : Unit => PyData.none) (fun x => PyData.tuple (enc x)) := ⟨fun _ _ => rfl, fun _ _ => rfl⟩
instance unlNL {enc : α → List PyData} : Unl (fun _ : Unit => PyData.none) (fun x => PyData.list (enc x)) := ⟨fun _ _ => rfl, fun _ _ => rfl⟩
instance unlNI : Unl (fun _ : Unit => PyData.none) PyData.int := ⟨fun _ _ => rfl, fun _ _ => rfl⟩
instance unlNS : Unl (fun _ : Unit => PyData.none) PyData.str := ⟨fun _ _ => rfl, fun _ _ => rfl⟩
instance unlIT {enc : α → List PyData} : Unl PyData.int (fun x => PyData.tuple (enc x)) := ⟨fun _ _ => rfl, fun _ _ => rfl⟩
instance unlIS : Unl PyData.int PyData.str := ⟨fun _ _ => rfl, fun _ _ => rfl⟩
instance unlST {enc : α → List PyData} : Unl PyData.str (fun x => PyData.tuple (enc x)) := ⟨fun _ _ => rfl, fun _ _ => rfl⟩
instance unlNSum {enc : α → PyData} {enc' : β → PyData} [ha : Unl (fun _ : Unit => PyData.none) enc] [hb : Unl (fun _ : Unit => PyData.none) enc'] : Unl (fun _ : Unit => PyData.none) (encSum enc enc') := ⟨fun x y => by
  cases y with
  | inl a => exact ha.ne x a
  | inr b => exact hb.ne x b, fun x y => by
  cases y with
  | inl a => exact ha.en x a
  | inr b => exact hb.en x b⟩
/-- tuples of unlike lengths -/
theorem eqvAll_len : ∀ {xs ys : List PyData}, xs.length ≠ ys.length → PyData.eqvAll xs ys = false
  | [], [], h => absurd rfl h
  | [], _ :: _, _ => rfl
  | _ :: _, [], _ => rfl
  | x :: xs, y :: ys, h => by
    show (PyData.eqv x y && PyData.eqvAll xs ys) = false
    rw [eqvAll_len (xs := xs) (ys := ys) (fun z => h (by rw [List.length_cons, List.length_cons, z])), Bool.and_false]
theorem unlLen {enc : α → List PyData} {enc' : β → List PyData} {n m : Nat} (h1 : ∀ x, (enc x).length = n) (h2 : ∀ x, (enc' x).length = m) (h : n ≠ m) : Unl (fun x => PyData.tuple (enc x)) (fun x => PyData.tuple (enc' x)) :=
  ⟨fun x y => eqvAll_len (by rw [h1, h2]; exact h), fun x y => eqvAll_len (by rw [h1, h2]; exact fun z => h z.symm)⟩
/-! ### in -/
variable {P : Program} {w : World} {mg : Str → Option Value} {base : Heap} {k : Nat}
theorem any_eqv {enc : α → PyData} {n : Nat} {good : α → Prop} (hr : Dat ra enc n good) [DecidableEq α] (xs : List α) (x : α) : ((xs.map enc).any fun z => PyData.eqv z (enc x)) = decide (x ∈ xs) := by
  rw [Bool.eq_iff_iff, decide_eq_true_eq, List.any_eq_true]
  constructor
  · rintro ⟨z, hz, e⟩
    obtain ⟨y, hy, rfl⟩ := List.mem_map.mp hz
    rw [← (hr.eqv y x).mp e]
    exact hy
  · exact fun h => ⟨enc x, List.mem_map.mpr ⟨x, h, rfl⟩, (hr.eqv x x).mpr rfl⟩
theorem o_inD [fam : Fam F P w K mg base k] {enc : α → PyData} {n : Nat} {good : α → Prop} [hr : Dat ra enc n good] [DecidableEq α] {x : α} {y : β} {xs : List α} [h2 : LsR O rb y ra xs] {Ψ : Bool → List Own → Prop} (hx : good x) (hxs : ∀ z ∈ xs, good z) (kk : Ψ (decide (x ∈ xs)) O) (hn : n + 1 ≤ 64 := by decide) :
    OW F K B Γ O (compareOp .In) ra rb x y rBool Ψ := fun σ G H v w W rv rw Q q => by
  obtain ⟨d, us, b1, b2, b3⟩ := h2.get W rw
  have hL : Dat (rLst ra) (fun xs => PyData.list (xs.map enc)) (n + 1) (fun xs => ∀ x ∈ xs, good x) := inferInstance
  refine ⟨rInD K, fun j => by rw [← fam.ka j]; exact op_inD (by have := (fam.rm j).un; omega), enc x, xs.map enc, hr.dp W.sub rv, by rw [b1]; exact .lst b2 (all2_dp hr W.sub b3), shp hr hx (by omega), shp hL hxs hn, q _ O _ G H kk W (Ex.refl _) ?_⟩
  exact congrArg V.bl (any_eqv hr xs x)
theorem o_notInD [fam : Fam F P w K mg base k] {enc : α → PyData} {n : Nat} {good : α → Prop} [hr : Dat ra enc n good] [DecidableEq α] {x : α} {y : β} {xs : List α} [h2 : LsR O rb y ra xs] {Ψ : Bool → List Own → Prop} (hx : good x) (hxs : ∀ z ∈ xs, good z) (kk : Ψ (!decide (x ∈ xs)) O) (hn : n + 1 ≤ 64 := by decide) :
    OW F K B Γ O (compareOp .NotIn) ra rb x y rBool Ψ := fun σ G H v w W rv rw Q q => by
  obtain ⟨d, us, b1, b2, b3⟩ := h2.get W rw
  have hL : Dat (rLst ra) (fun xs => PyData.list (xs.map enc)) (n + 1) (fun xs => ∀ x ∈ xs, good x) := inferInstance
  refine ⟨rNotInD K, fun j => by rw [← fam.ka j]; exact op_notInD (by have := (fam.rm j).un; omega), enc x, xs.map enc, hr.dp W.sub rv, by rw [b1]; exact .lst b2 (all2_dp hr W.sub b3), shp hr hx (by omega), shp hL hxs hn, q _ O _ G H kk W (Ex.refl _) ?_⟩
  exact congrArg (fun b => V.bl (!b)) (any_eqv hr xs x)
/-- d['key'] of a name's own dict: the value told -/
theorem d_recW [fam : Fam F P w K mg base k] {δ : Type} {fr : RpF δ} {ns : List Str} {key n : Str} {pos pos' pos2 : Pos} {j0 : Nat} (iv i : Nat) {q : Addr} {x : δ} {f : Own → List Own} {r : Rp β} {z : β} [hA : At Γ iv rAdr q] [hO : OwnAt O q (oRec ns fr) x f] [hf : FV fr x i r z] {Φ : β → List Own → Prop} (hk : ns[i]? = some key) (hn : ns.Nodup) (kk : Φ z O)
    (hN : ∀ j, (F j).N[iv]? = some n := by intro _; rfl) (hv : ∀ j, Vis (F j).env.scope n := by intro _; first | exact Or.inl rfl | exact Or.inr (Or.inl rfl) | exact Or.inr (Or.inr rfl)) (hd : (n == ("__debug__" : Str)) = false := by decide)
    (hcd : (n == ("__classdict__" : Str)) = false := by decide) : DW F K B Γ O (.Subscript (.Name n pos2) (.Constant (.str key) j0 pos') pos) r Φ := by
  intro σ G H W Q qq
  refine ⟨tDGet (WE F (.Name n pos2)) (tC (.str key)), fun i => pe_dget (by have := (fam.rm i).units; omega) (WE.pe i) pe_str (fun _ _ => rfl), ?_⟩
  refine d_var (F := F) iv (Φ := fun x' O1 => x' = q ∧ O1 = O) ⟨rfl, rfl⟩ hN hv hd hcd σ G H W _ fun c O1 v G1 H1 ⟨e1, e2⟩ W1 ex r1 => ?_
  subst e1 e2
  obtain ⟨ob, h1, vs, h2, h3⟩ := W1.ownO hO
  subst h2
  obtain ⟨u, h4, h5⟩ := hf.get h3
  refine ⟨c, u, r1, ?_, qq _ O1 u G1 H1 kk W1 ex h5⟩
  have e3 := DGet.k (k := Sum.inr key) h1
  rw [zip_val hn hk, h4] at e3
  exact e3
end
end Sk


set_option Elab.async false
set_option linter.all false
set_option maxRecDepth 100000
set_option maxHeartbeats 4100000
/-! Sk42: sum(..) of a generator expression over ints. -/
namespace Sk
open PySem L2 Evl PyProof.Rows GenW
open GxR (TabB TabG Tabbed inv_tab)
/-- what sum's own list holds -/
def SumAt (h : Heap) (S : Addr) (b : Int) : Prop := ∃ (c : Nat) (t : Tok), h.get? S = some { cls := .type "list", dict := none, data := .seq #[.int b t] c, slots := #[] }
/-- it is written anew, once or twice -/
def PutS (S : Addr) (h : Heap) (k : Int) (t : Tok) (h' : Heap) : Prop := h' = h.update S (Obj.mapSeq fun _ => #[.int k t]) ∨ h' = (h.update S (Obj.mapSeq fun _ => #[.int k t])).update S (Obj.mapSeq fun _ => #[.int k t])
section
variable {prog : Program} {w : World} {A : Around} {E : Value → Shared → Prop}
theorem sum_inv {I S : Addr} {R : Result → Shared → Prop} (J : Nat → Int → Shared → Prop)
    (turn : ∀ m b s, J m b s → SumAt s.heap S b ∧ wpAny (model prog w) A.in1 (pyNext (.ref I)) (fun r s1 => SumAt s1.heap S b ∧ ((r = none ∧ ∀ t, R (.ok (.ret (.int b t))) s1) ∨
      ∃ k t, r = some (.int k t) ∧ ∃ m', m' < m ∧ ∀ t' tk h', PutS S s1.heap (b + k) t' h' → J m' (b + k) { s1 with heap := h', toks := tk })) (fun _ _ => False) s) :
    ∀ (m : Nat) (b : Int) (s : Shared) (st : Int), (st = 0 ∨ st = 2) → J m b s → codeAny (model prog w) A (.builtin "sum.loop" ⟨[.ref I, .ref S, rawInt st, rawInt 0], []⟩) R s := by
  intro m
  induction m using Nat.strongRecOn with
  | ind m ih =>
    intro b s st hst2 hJ
    obtain ⟨hb, ht⟩ := turn m b s hJ
    refine codeAny_builtin F.entry_sum_loop ?_
    rw [Around.under_plainId F.plain_sum_loop _]
    obtain ⟨c, tA, hS⟩ := hb
    show wpAny _ A.in1 (seqItems? (.ref S) >>= _) _ _ s
    refine wpAny_bind (wpAny_seqItems hS rfl ?_)
    show wpAny _ A.in1 (tryCatch (pyNext (.ref I)) _ >>= _) _ _ s
    refine wpAny_bind (wpAny_tryCatch (wpAny_mono ht (fun r s1 h => ?_) fun _ _ z => z.elim))
    obtain ⟨⟨c1, t1, hS1⟩, h⟩ := h
    rcases h with ⟨e, hR⟩ | ⟨k, t, e, m', hm, h1⟩
    · subst e
      exact wpAny_pure (hR tA)
    · subst e
      rcases hst2 with rfl | rfl
      · show wpAny _ A.in1 (if (_ : Bool) = true then (mkInt (b + k) >>= _) else _) _ _ _
        split
        · refine wpAny_bind (wpAny_mkInt ?_)
          show wpAny _ A.in1 (updateSeq S (fun _ => #[.int (b + k) s1.toks]) >>= _) _ _ _
          refine wpAny_bind ?_
          exact wpAny_updateSeq hS1 rfl (wpAny_pure ⟨plainId_quiet F.plain_sum_loop _, ih m' hm _ _ 0 (.inl rfl) (h1 s1.toks _ _ (.inl rfl))⟩)
        · refine wpAny_bind (wpAny_rule ?_)
          refine wpAny_bind (wpAny_attempt (wpAny_holding (wpAny_add_int ?_)))
          show wpAny _ A.in1 (updateSeq S (fun _ => #[.int (b + k) s1.toks]) >>= _) _ _ _
          refine wpAny_bind (wpAny_updateSeq hS1 rfl ?_)
          have hS₂ := Heap.get?_update_self (Obj.mapSeq fun _ => #[Value.int (b + k) s1.toks]) hS1 rfl
          refine wpAny_bind (wpAny_letGo ?_)
          exact wpAny_bind (wpAny_updateSeq hS₂ rfl (wpAny_pure ⟨plainId_quiet F.plain_sum_loop _, ih m' hm _ _ 2 (.inr rfl) (h1 s1.toks _ _ (.inr rfl))⟩))
      · show wpAny _ A.in1 ((holding [Value.int k t] (binaryOp .Add (.int b tA) (.int k t))).attempt >>= _) _ _ _
        refine wpAny_bind (wpAny_attempt (wpAny_holding (wpAny_add_int ?_)))
        show wpAny _ A.in1 (updateSeq S (fun _ => #[.int (b + k) s1.toks]) >>= _) _ _ _
        refine wpAny_bind (wpAny_updateSeq hS1 rfl ?_)
        have hS₂ := Heap.get?_update_self (Obj.mapSeq fun _ => #[Value.int (b + k) s1.toks]) hS1 rfl
        refine wpAny_bind (wpAny_letGo ?_)
        exact wpAny_bind (wpAny_updateSeq hS₂ rfl (wpAny_pure ⟨plainId_quiet F.plain_sum_loop _, ih m' hm _ _ 2 (.inr rfl) (h1 s1.toks _ _ (.inr rfl))⟩))
theorem call_sumI {a gi : Addr} {s : Shared} {Q : Value → Shared → Prop} (hg : s.heap.IsGen a gi) (J : Nat → Int → Shared → Prop)
    (turn : ∀ m b s1, J m b s1 → SumAt s1.heap s.heap.objs.size b ∧ wpAny (model prog w) A.in1 (pyNext (.ref a)) (fun r s2 => SumAt s2.heap s.heap.objs.size b ∧ ((r = none ∧ ∀ t, Q (.int b t) s2) ∨
      ∃ k t, r = some (.int k t) ∧ ∃ m', m' < m ∧ ∀ t' tk h', PutS s.heap.objs.size s2.heap (b + k) t' h' → J m' (b + k) { s2 with heap := h', toks := tk })) (fun _ _ => False) s1)
    {m : Nat} (hJ : ∀ t tk, J m 0 { s with heap := s.heap.push { cls := .type "list", data := .seq #[.int 0 t] }, toks := tk }) : wpAny (model prog w) A (call (.builtin "sum") [.ref a]) Q E s := by
  refine call_function_tree F.kind_sum F.plain_sum F.entry_sum (F.args_sum1 _) ?_
  unfold Builtin.«sum»
  simp only [List.length_cons, List.length_nil]
  rw [if_neg (by decide)]
  refine wpAny_bind (wpAny_of_eq (show Builtin.Builtins.bindParams "sum" ["start"] 0 { } = pure [none] from rfl) ?_)
  refine wpAny_bind (wpAny_pyIter_gen hg ?_)
  refine wpAny_bind (wpAny_mkInt ?_)
  refine wpAny_bind (wpAny_pure ?_)
  simp only [List.forIn_cons, List.forIn_nil]
  refine wpAny_bind (wpAny_bind (wpAny_bind (wpAny_isInstance (T := "int") (b := false) (typeIs_int _ _ _) PySem.sub_int_str ?_)))
  simp only [Bool.false_eq_true, if_false]
  refine wpAny_pure (wpAny_bind (wpAny_bind (wpAny_isInstance (T := "int") (b := false) (typeIs_int _ _ _) PySem.sub_int_bytes ?_)))
  simp only [Bool.false_eq_true, if_false]
  refine wpAny_pure (wpAny_bind (wpAny_bind (wpAny_isInstance (T := "int") (b := false) (typeIs_int _ _ _) PySem.sub_int_bytearray ?_)))
  simp only [Bool.false_eq_true, if_false]
  refine wpAny_pure (wpAny_pure ?_)
  refine wpAny_bind (wpAny_newObj_type ?_)
  refine wpAny_pure ⟨plainId_quiet F.plain_sum_loop _, sum_inv J (fun m b s1 h => ?_) m 0 _ 0 (.inl rfl) (hJ _ _)⟩
  obtain ⟨h1, h2⟩ := turn m b s1 h
  refine ⟨h1, wpAny_mono h2 (fun r s2 z => ?_) fun _ _ z => z⟩
  obtain ⟨z1, z2⟩ := z
  refine ⟨z1, ?_⟩
  rcases z2 with ⟨e, q⟩ | q
  · exact .inl ⟨e, fun t => by simpa using q t⟩
  · exact .inr q
end
/-- bs: the sum of the first i -/
def GxWantS (J : It) (g : TG) (te : TE) (σw : L2.St) (vs : List Nat) (Q : VK) (H2 : Hp) : Prop :=
  ∀ Sb, H2 Sb = none → ∃ (n : Nat) (bs : Nat → Int) (C : Nat → Hp → Prop), bs 0 = 0 ∧ C 0 (upd H2 Sb (.lst [.int 0])) ∧ ∀ i H, C i H → H Sb = some (.lst [.int (bs i)]) ∧ ((i = n ∧ J.stop i H ∧ Q (.int (bs n)) H) ∨
    (i < n ∧ J.go i H ∧ ∀ x H1, J.yld i H x H1 → g x σw H1 fun σ2 H2 => wipe σ2 vs = σw ∧ te σ2 H2 fun y H3 => ∃ k, y = .int k ∧ H3 Sb = some (.lst [.int (bs i)]) ∧ bs (i + 1) = bs i + k ∧ C (i + 1) (upd H3 Sb (.lst [.int (bs (i + 1))]))))
def tGxS (P : Addr) (wi : TI) (g : TG) (te : TE) (vs : List Nat) : TE := fun σ H Q => wi σ H fun J H1 => TabG H1 P ∧ ∀ H2, Tabbed P H1 H2 → GxWantS J g te (wipe σ vs) vs Q H2
section
variable {X : Cx} {pins : List (Addr × Obj)} {σ : L2.St} {H : Hp} {s : Shared}
theorem sumAt_of {Sb : Addr} {b : Int} (I : Inv X pins σ H s) (h : H Sb = some (.lst [.int b])) : SumAt s.heap Sb b := by
  obtain ⟨its, n, r, e, _⟩ := I.lst h
  cases r with
  | cons r1 t =>
    cases t
    obtain ⟨u1, h1⟩ := r1
    subst h1
    exact ⟨n, u1, e⟩
theorem sum_put {Sb : Addr} {b k : Int} {t : Tok} (tk : Tok) (I : Inv X pins σ H s) (h : H Sb = some (.lst [.int b])) :
    Inv X pins σ (upd H Sb (.lst [.int k])) { s with heap := s.heap.update Sb (Obj.mapSeq fun _ => #[.int k t]), toks := tk } := by
  obtain ⟨its, n, r, e, _⟩ := I.lst h
  exact I.lset (t' := tk) h e (f := fun _ => #[.int k t]) rfl (ys := [.int k]) (its' := [.int k t]) (.cons ⟨t, rfl⟩ .nil) (show 1 ≤ sizeLine by decide)
theorem SumAt.put {h : Heap} {S : Addr} {b : Int} (hb : SumAt h S b) (k : Int) (t : Tok) : SumAt (h.update S (Obj.mapSeq fun _ => #[.int k t])) S k := by
  obtain ⟨c, u, e⟩ := hb
  exact ⟨c, t, Heap.get?_update_self _ e rfl⟩
theorem SumAt.puts {h h' : Heap} {S : Addr} {b : Int} (hb : SumAt h S b) {k : Int} {t : Tok} (hp : PutS S h k t h') : SumAt h' S k := by
  rcases hp with e | e <;> subst e
  · exact hb.put k t
  · exact (hb.put k t).put k t
theorem upd2 {H : Hp} {a : Addr} {o o' : HO} : upd (upd H a o) a o' = upd H a o' := funext fun b => by
  by_cases z : b = a
  · rw [z, upd_same, upd_same]
  · rw [upd_ne z, upd_ne z, upd_ne z]
theorem puts_inv {Sb : Addr} {b k : Int} {t tk : Tok} {h' : Heap} (I : Inv X pins σ H s) (h : H Sb = some (.lst [.int b])) (hp : PutS Sb s.heap k t h') : Inv X pins σ (upd H Sb (.lst [.int k])) { s with heap := h', toks := tk } := by
  rcases hp with e | e <;> subst e
  · exact sum_put tk I h
  · have := sum_put (k := k) (t := t) tk (sum_put (k := k) (t := t) tk I h) (b := k) upd_same
    rw [upd2] at this
    exact this
theorem puts_other {Sb c : Addr} {h h' : Heap} {k : Int} {t : Tok} {o : Obj} (hp : PutS Sb h k t h') (hne : Sb ≠ c) (e : h.get? c = some o) : h'.get? c = some o := by
  rcases hp with z | z <;> subst z
  · exact (Heap.get?_update_other _ _ hne).trans e
  · exact (Heap.get?_update_other _ _ hne).trans ((Heap.get?_update_other _ _ hne).trans e)
variable {c P : Addr} {elt tg iter : Expr} {gpos pos p : Pos} {scope : Scope} {own : List (Str × Nat)} {wi : TI} {g : TG} {te : TE} {k : Nat} {Q : VK} {J : It} {H2 : Hp} {s5 : Shared}
theorem gx_runS (hr : Room (k + 1) X.A) (hc : X.calm = true) (ok : GxOk X.N X.env.scope scope own) (M : GxMade X pins σ own (gxOne elt tg iter scope gpos) tg scope J H2 s5)
    (pg : ∀ (A' : Around) (s : Shared) (H : Hp) (code : Value) (fp : List Addr), Room k A' → PG (gxX X A' s H (gxEnv X scope s code) fp) tg g) (pe : ∀ (A' : Around) (s : Shared) (H : Hp) (code : Value) (fp : List Addr), Room k A' → PE (gxX X A' s H (gxEnv X scope s code) fp) elt te)
    (hw : GxWantS J g te (wipe σ (own.map fun p : Str × Nat => p.2)) (own.map fun p : Str × Nat => p.2) Q H2) : wpAny (model X.prog X.w) X.A (call (.builtin "sum") [.ref M.a]) (EP X pins σ Q) X.xe s5 := by
  have hS2 : H2 s5.heap.objs.size = none := M.I5.fresh
  obtain ⟨n, bs, C, b0, c0, step⟩ := hw _ hS2
  have hroom := gx_room (it := M.it) (s4 := M.s4) (code := M.code) hr (e := gxOne elt tg iter scope gpos) rfl
  have hpn : (M.a, M.go) ∈ (gxZ X (gxOne elt tg iter scope gpos) scope M.s4 H2 M.code M.fp M.it).pn ++ [(M.a, M.go)] := List.mem_append_right _ (List.mem_singleton_self _)
  generalize hSb : s5.heap.objs.size = Sb at hS2 c0 step
  let Yd : Nat → V → Slp → Shared → Prop := fun m y S s => ∃ kk, y = .int kk ∧ SumAt s.heap Sb (bs (n - m)) ∧ bs (n - m + 1) = bs (n - m) + kk ∧ ∀ t tk h', PutS Sb s.heap (bs (n - m) + kk) t h' → S { s with heap := h', toks := tk }
  let Dn : Nat → Slp := fun m s => m = 1 ∧ ∃ H, Inv X pins σ H s ∧ H Sb = some (.lst [.int (bs n)]) ∧ Q (.int (bs n)) H
  have I6 : ∀ t tk, Inv (gxZ X (gxOne elt tg iter scope gpos) scope M.s4 H2 M.code M.fp M.it) [(M.a, M.go)] (wipe σ (own.map fun p : Str × Nat => p.2)) (upd H2 Sb (.lst [.int 0])) { s5 with heap := s5.heap.push { cls := .type "list", data := .seq #[.int 0 t] }, toks := tk } := fun t tk => by
    have := M.I5.lnew (ys := [.int 0]) (its := [.int 0 t]) (t' := tk) (.cons ⟨t, rfl⟩ .nil) (show 1 ≤ sizeLine by decide)
    rw [hSb] at this
    exact this
  have neFp : ∀ b ∈ M.fp, b ≠ Sb := fun b hb z => by
    have h1 := (M.nf b hb).2
    have h2 : M.s4.heap.objs.size < M.a := M.ga
    have h3 : M.a < s5.heap.objs.size := Heap.lt_size (M.I5.pin _ hpn).1
    rw [z, ← hSb] at h1
    exact Nat.lt_irrefl _ (Nat.lt_trans (Nat.lt_trans h1 h2) h3)
  have h6 : ∀ t tk, gxS (gxZ X (gxOne elt tg iter scope gpos) scope M.s4 H2 M.code M.fp M.it) [(M.a, M.go)] (wipe σ (own.map fun p : Str × Nat => p.2)) M.fp M.tn C 0 { s5 with heap := s5.heap.push { cls := .type "list", data := .seq #[.int 0 t] }, toks := tk } := fun t tk =>
    ⟨_, I6 t tk, M.T.keep _ _ _ M.st fun b _ o e => Heap.get?_push_of_some _ e, fun b hb => (upd_ne (neFp b hb)).trans (M.nf b hb).1.1, c0⟩
  have goes : ∀ s2, gxS (gxZ X (gxOne elt tg iter scope gpos) scope M.s4 H2 M.code M.fp M.it) [(M.a, M.go)] (wipe σ (own.map fun p : Str × Nat => p.2)) M.fp M.tn C 0 s2 → Seg (model X.prog X.w) X.A.in1.in1 (fun m a r b => r = .ok .next ∧ gxR Dn m a b) (gxY M.a M.go Yd) (n + 1) s2 (gx0 (gxOne elt tg iter scope gpos) 0 M.it (gxEnv X scope M.s4 M.code)) ((model X.prog X.w).den (gx0 (gxOne elt tg iter scope gpos) 0 M.it (gxEnv X scope M.s4 M.code))) [] s2 := fun s2 h2 => by
    refine gx_seg1 (Z := gxZ X (gxOne elt tg iter scope gpos) scope M.s4 H2 M.code M.fp M.it) (n := n) (C := C) (vs := own.map fun p : Str × Nat => p.2) (YH := fun i y H3 => ∃ kk, y = .int kk ∧ H3 Sb = some (.lst [.int (bs i)]) ∧ bs (i + 1) = bs i + kk ∧ C (i + 1) (upd H3 Sb (.lst [.int (bs (i + 1))]))) hc rfl (fun e s z => z) ok.co hpn M.T (pg _ _ _ _ _ hroom) (pe _ _ _ _ _ hroom) (gx_fpall M) (fun {σ2} e => by rw [← e, wipe_length]) (fun i H ci => ((step i H ci).2).imp (fun ⟨z1, z2, _⟩ => ⟨z1, z2⟩) fun z => z)
      (fun i y H s lt I st' nf ⟨kk, ey, hl, hb, cn⟩ => ?_) (fun s H I ci => ?_) s2 s2 h2
    · obtain ⟨h1, h2⟩ := step n H ci
      rcases h2 with ⟨_, _, q⟩ | ⟨lt, _⟩
      · exact ⟨by omega, H, gx_back M I, h1, q⟩
      · omega
    · have e : n - (n + 1 - (i + 1)) = i := by omega
      show ∃ kk, _
      rw [e]
      refine ⟨kk, ey, sumAt_of I hl, hb, fun t tk h' hp => ?_⟩
      rw [hb] at cn
      exact ⟨_, puts_inv I hl hp, M.T.keep _ _ _ st' fun b hb o e => puts_other hp (Ne.symm (neFp b hb)) e, fun b hb => (upd_ne (neFp b hb)).trans (nf b hb), cn⟩
  subst hSb
  refine call_sumI (M.gen _ (M.I5.pin _ hpn).1) (fun m b s1 => m ≤ n + 1 ∧ b = bs (n + 1 - m) ∧ SumAt s1.heap s5.heap.objs.size b ∧ GxLive X.prog X.w X.A.in1 M.a M.go Yd Dn M.gi m s1) (fun m b s1 hJ => ?_) (m := n + 1) fun t tk => ⟨Nat.le_refl _, by rw [Nat.sub_self, b0], ⟨0, t, Heap.get?_push_size _ rfl⟩, ⟨_, _, M.gs, gxS_ok hpn 0, h6 t tk, fun s2 h2 => ⟨rfl, goes s2 h2⟩⟩⟩
  obtain ⟨hm, eb, hba, live⟩ := hJ
  refine ⟨hba, wpAny_mono (gx_next (E := fun _ _ => False) (hr.in1).hd (hr.in1).depth M.gen (fun m s G h' ⟨e, H, I, hl, q⟩ hG hk => ⟨e, H, Inv.kept (s := { s with gens := G }) (t' := s.toks) (Inv.gens I hG) hk, hl, q⟩) (fun m y S s G so ⟨kk, e, hb, e2, q1⟩ hG => ⟨kk, e, hb, e2, fun t tk h' hp => so.gens _ G (q1 t tk h' hp) hG⟩) live) (fun r s2 hg => ?_) fun _ _ z => z⟩
  rcases hg with ⟨er, em, H, I, hl, q⟩ | ⟨v, y, S, er, rv, ⟨kk, ey, hbb, hbn, q1⟩, nx⟩
  · subst em
    have eb : b = bs n := eb
    subst eb
    exact ⟨sumAt_of I hl, .inl ⟨er, fun t => ⟨.int (bs n), _, I, ⟨t, rfl⟩, q⟩⟩⟩
  · subst ey
    obtain ⟨t, ev⟩ := rv
    subst ev
    have hm0 : 0 < m := (nx _ (by exact rfl) (q1 t s2.toks _ (.inl rfl))).1
    have ei : n - (m - 1) = n + 1 - m := by omega
    have ei2 : n + 1 - (m - 1) = n + 1 - m + 1 := by omega
    rw [ei] at hbb hbn q1
    rw [← eb] at hbb hbn q1
    exact ⟨hbb, .inr ⟨kk, t, er, m - 1, by omega, fun t' tk h' hp => ⟨by omega, by rw [ei2, hbn], hbb.puts hp, (nx _ (by exact rfl) (q1 t' tk h' hp)).2⟩⟩⟩
theorem pe_gxSum (hr : Room (k + 1) X.A) (hg : Gl X "sum") (hm : X.mg "sum" = none) (hb : bootBuiltins "sum" = some (.builtin "sum")) (TB : TabB X.base X.mg c P) (hcode : X.env.code = .ref c) (ok : GxOk X.N X.env.scope scope own) (hN : X.N.Nodup) (hc : X.calm = true) (hi : PI X tg iter wi)
    (pg : ∀ (A' : Around) (s : Shared) (H : Hp) (code : Value) (fp : List Addr), Room k A' → PG (gxX X A' s H (gxEnv X scope s code) fp) tg g) (pe : ∀ (A' : Around) (s : Shared) (H : Hp) (code : Value) (fp : List Addr), Room k A' → PE (gxX X A' s H (gxEnv X scope s code) fp) elt te)
    (hs : ∀ v, genFold iter X.env v = pure v) (he : starEach [gxOne elt tg iter scope gpos] X.env = (false, eval (gxOne elt tg iter scope gpos) X.env) :: starEach [] X.env := by rfl) :
    PE X (.Call (.Name "sum" p) [gxOne elt tg iter scope gpos] [] pos) (tGxS P wi g te (own.map fun p : Str × Nat => p.2)) := by
  refine ⟨fun pins s σ H Q I h => wpAny_Call_Name_kw (ld_blt I hg hm hb (PyProof.Rows.callWith_builtin1 ?_ he (by rfl)))⟩
  rw [he]
  show wpAny _ _ (spliced ((false, eval (gxOne elt tg iter scope gpos) X.env) :: backTo pos (starEach [] X.env))) _ _ s
  refine Calls.spliced_cons (gx_make (own := own) (R := fun J H2 => GxWantS J g te (wipe σ (own.map fun p : Str × Nat => p.2)) (own.map fun p : Str × Nat => p.2) Q H2) hr TB hcode ok hN hc hi hs I h fun J H2 s5 M hR => Calls.spliced_nil ?_)
  exact gx_runS hr hc ok M pg pe hR
end
def sumO {α : Type} (f : α → Int) (xs : List α) : Int := xs.foldl (fun b x => b + f x) 0
section
variable {ι : Type} {F : ι → Cx} {K : Fg} {B : Bs} {Γ : Gm} {O : List Own} {α : Type} {ra : Rp α} {e tg elt iter : Expr} {n : Str} {p pos gpos : Pos} {scope : Scope}
variable {P : Program} {w : World} {mg : Str → Option Value} {base : Heap} {k : Nat}
theorem one_of {K : Fg} {G : Hp} {o : HO} {b : Int} (h : (oLst rInt).rep K G o [b]) : o = .lst [.int b] := by
  obtain ⟨ws, e, h⟩ := h
  match ws, h with
  | [_], ⟨h1, _⟩ =>
    rw [e, show _ = V.int b from h1]
theorem one_rep {K : Fg} {G : Hp} (b : Int) : (oLst rInt).rep K G (.lst [.int b]) [b] := ⟨[.int b], rfl, rfl, trivial⟩
theorem d_gxSum [fam : Fam F P w K mg base (k + 1)] (own : List (Str × Nat)) (vs : List Nat) (P0 : Addr) (hP0 : P0 ∈ B.T) (tb : TabF F P0) (ok : ∀ i, GxOk (F i).N (F i).env.scope scope own) {Γ' : Gm} [hw : WipeG Γ vs Γ'] {js : List Nat} {f : α → Int} {Φ : Int → List Own → Prop} (hm : mg "sum" = none)
    (h : DI F K B Γ O tg iter ra fun xs O1 => O1 = O ∧ (∀ gg D ys x, x ∈ xs → DG (gxF F k scope) K (B.push gg) Γ' (⟨D, oLst rInt, ys⟩ :: O) tg ra x js fun Γ2 => DW (gxF F k scope) K (B.push gg) Γ2 (⟨D, oLst rInt, ys⟩ :: O) elt rInt fun y O3 => y = f x ∧ O3 = ⟨D, oLst rInt, ys⟩ :: O) ∧ Φ (sumO f xs) O)
    (hv : own.map (·.2) = vs := by rfl) (hjs : ∀ j ∈ js, j ∈ vs := by decide) (hg : ∀ i, Gl (F i) "sum" := by intro _; rfl) (hs : ∀ i v, genFold iter (F i).env v = pure v := by intro _ _; rfl)
    (he : ∀ i, starEach [gxOne elt tg iter scope gpos] (F i).env = (false, eval (gxOne elt tg iter scope gpos) (F i).env) :: starEach [] (F i).env := by intro _; rfl) :
    DW F K B Γ O (.Call (.Name "sum" p) [gxOne elt tg iter scope gpos] [] pos) rInt Φ := by
  intro σ G H W Q q
  refine ⟨tGxS P0 (WI F tg iter) (WG (gxF F k scope) tg) (WE (gxF F k scope) elt) (own.map fun p : Str × Nat => p.2), fun i => ?_, ?_⟩
  · obtain ⟨c, tb1, tb2⟩ := tb i
    exact pe_gxSum (fam.rm i) (hg i) (by rw [fam.mg i]; exact hm) bt_sum tb1 tb2 (ok i) (fam.nd i) (fam.cm i) (WI.pi i) (fun A' s H code fp hr => WG.pg (F := gxF F k scope) (i, ⟨A', hr⟩, s, H, code, fp)) (fun A' s H code fp hr => WE.pe (F := gxF F k scope) (i, ⟨A', hr⟩, s, H, code, fp)) (hs i) (he i)
  refine h σ G H W _ fun xs J O1 G1 H1 ⟨e1, hst, hΦ⟩ gv W1 ee => ?_
  subst e1
  refine ⟨(W1.tab P0 hP0).1, fun H2 tb Sb hSb => ?_⟩
  have W2 := W1.tabbed hP0 tb
  rw [show (own.map fun p : Str × Nat => p.2) = vs from hv]
  have hG : ∀ {G' : Hp}, Ex G1 G' → EnvR K G' σ Γ := fun e => W.env.mono (ee.trans e)
  refine ⟨xs.length, fun i => sumO f (xs.take i), fun i H => i ≤ xs.length ∧ ∃ G2, Ws K (B.push G1) Γ' (⟨Sb, oLst rInt, [sumO f (xs.take i)]⟩ :: O1) (wipe σ vs) G2 H, rfl, ⟨Nat.zero_le _, G1, (W2.base.env' (hw.env (hG (Ex.refl _)))).newOwn hSb (one_rep 0)⟩, ?_⟩
  rintro i H3 ⟨hi, G3, W3⟩
  have eb : Ex G1 G3 := W3.bs G1 List.mem_cons_self
  have hown : H3 Sb = some (.lst [.int (sumO f (xs.take i))]) := by
    obtain ⟨o, h1, h2⟩ := Ws.ownO (p := Sb) (r := oLst rInt) (x := [sumO f (xs.take i)]) (f := fun w => w :: O1) inferInstance W3
    rw [h1, one_of h2]
  refine ⟨hown, ?_⟩
  by_cases hlt : i < xs.length
  · refine .inr ⟨hlt, gv.go i G3 H3 hlt eb W3.sub, fun v H4 y => ?_⟩
    obtain ⟨x, G4, hx, s4, r4⟩ := gv.yld i G3 H3 v H4 hlt eb W3.sub y
    have hnext : sumO f (xs.take (i + 1)) = sumO f (xs.take i) + f x := by
      obtain ⟨h1, h2⟩ := List.getElem?_eq_some_iff.mp hx
      rw [List.take_succ_eq_append_getElem h1, h2]
      unfold sumO
      rw [List.foldl_append]
      rfl
    refine hst G1 Sb _ x (List.mem_of_getElem? hx) (wipe σ vs) G4 H4 v (W3.step s4) r4 _ fun Γ2 σ2 q2 W4 wp => ⟨(wp vs hjs).trans wipe_wipe, ?_⟩
    refine q2 σ2 G4 H4 W4 _ fun b O5 u G5 H5 ⟨eb5, eo⟩ W5 e5 r5 => ?_
    subst eo
    have e15 : Ex G1 G5 := W5.bs G1 List.mem_cons_self
    have hown5 : H5 Sb = some (.lst [.int (sumO f (xs.take i))]) := by
      obtain ⟨o, h1, h2⟩ := Ws.ownO (p := Sb) (r := oLst rInt) (x := [sumO f (xs.take i)]) (f := fun w => w :: O1) inferInstance W5
      rw [h1, one_of h2]
    refine ⟨b, r5, hown5, by show sumO f (xs.take (i + 1)) = sumO f (xs.take i) + b; rw [hnext, eb5], hlt, G5, ?_⟩
    exact (W5.env' (hw.env (hG e15))).mutO (r := oLst rInt) (x := [sumO f (xs.take i)]) (r' := oLst rInt) (f := fun w => w :: O1) (one_rep _)
  · obtain rfl : i = xs.length := by omega
    refine .inl ⟨rfl, gv.stop G3 H3 eb W3.sub, ?_⟩
    show Q (.int (sumO f (xs.take xs.length))) H3
    rw [List.take_length]
    have W6 := W3.perm (O' := O1) (fun w hw => List.mem_cons_of_mem _ hw) fun z => (List.nodup_cons.mp z).2
    exact q _ O1 (.int (sumO f xs)) G3 _ hΦ (W6.unbase.env' (hG eb)) (ee.trans eb) rfl
end
end Sk


set_option Elab.async false
set_option linter.all false
set_option maxRecDepth 100000
set_option maxHeartbeats 4100000
/-! Sk43: tuple * int. -/
namespace Sk
open PySem PySem.Spec PyProof.Rows L2 Evl
theorem tuple_mul1 (l : Addr) (items : Array Value) (n : Nat) (dd : Option Addr) (sl : Array (Option Value)) (u : Tok) :
    Meets (Builtin.«tuple.__mul__» ⟨[.ref l, .int 1 u], []⟩) (fun _ R s => s.heap.get? l = some { cls := .type "tuple", dict := dd, data := .seq items n, slots := sl } ∧ R (.ok (.ret (Value.ref l))) s) :=
  .of_wp fun prog w A R s h => by
    obtain ⟨hp, g, d, tk, os⟩ := s
    obtain ⟨hl, h⟩ := h
    have f1 := AutoSeq1.idx_int
    have c1 : (items.isEmpty || (1 : Int) == 1) = true := by simp
    wp_walk using wpAny_loadPart' hl
    repeat (first
      | (refine wpAny_ite_false (decide_eq_false (by decide)) ?_; wp_walk using wpAny_loadPart' hl)
      | (refine wpAny_ite_true (by exact decide_eq_true c1) ?_; wp_walk using wpAny_loadPart' hl)
      | (rw [c1]; wp_walk using wpAny_loadPart' hl))
    exact ⟨_, rfl, h⟩
def rRep1 (K : PySem.W.Frag) : R2 := fun x y H Q => ∃ l xs, x = .ref l ∧ y = .int 1 ∧ SqT K H l xs ∧ Q (.ref l) H
section
variable {X : Cx}
theorem op_rep1 : OpR X (binaryOp .Mult) (rRep1 X.K) := by
  intro pins s σ H x y v u Q I rx ry h
  obtain ⟨l, xs, rfl, rfl, hT, q⟩ := h
  cases rx
  obtain ⟨t, rfl⟩ := ry
  obtain ⟨its, r, ⟨⟨cls, dd, data, sl⟩, ho, hc, n, hd⟩, hs⟩ := I.tuple hT
  simp only at hc hd
  subst hc hd
  refine wpAny_binaryOp_repeat_ref (T := "tuple") (U := "int") (by decide) ⟨_, ho, rfl⟩ (fun s' => typeIs_int s' 1 t) noFill_tuple_mul F.fills_int_mul F.slot_int_rmul repeat_tuple F.slot_int_index.lookup
    (call_meets F.slot_int_rmul (typeIs_int s 1 t) F.entry_int_rmul (F.args_int_rmul_2 _ _) (int_rmul_tuple 1 t l its.toArray n dd sl)
      ⟨ho, rfl, ⟨_, ho, rfl⟩, call_meets F.slot_tuple_mul ⟨_, ho, rfl⟩ F.entry_tuple_mul (F.args_tuple_mul_2 _ _) (tuple_mul1 l its.toArray n dd sl t) ⟨ho, ?_⟩⟩)
  exact ⟨.ref l, _, I, rfl, q⟩
end
section
variable {ι : Type} {F : ι → Cx} {K : Fg} {B : Bs} {Γ : Gm} {O : List Own} {α β : Type} {ra : Rp α} {rb : Rp β} {e : Expr}
theorem All2.rep {p : V → β → Prop} {vs : List V} {xs : List β} (h : All2 p vs xs) : ∀ n : Nat, All2 p (List.replicate n vs).flatten (List.replicate n xs).flatten
  | 0 => trivial
  | n + 1 => by
    rw [List.replicate_succ, List.replicate_succ, List.flatten_cons, List.flatten_cons]
    exact h.append (h.rep n)
theorem o_mulT {xs : List β} {n : Int} {Φ : List β → List Own → Prop} (hx : xs ≠ []) (h1 : 1 ≤ n) (hn : n ≤ 1000) (hz : xs.length ≤ 1000) (kk : Φ (List.replicate n.toNat xs).flatten O) (hK : ∀ j, (F j).K = K := by intro _; rfl) : OW F K B Γ O (binaryOp .Mult) (rTpv rb) rInt xs n (rTpv rb) Φ := by
  intro σ G H v u W ⟨c, vs, a1, a2, a3⟩ ru Q q
  have n1 : vs ≠ [] := fun e => by
    have := a3.length
    rw [e] at this
    exact hx (List.eq_nil_of_length_eq_zero this.symm)
  have ru : u = .int n := ru
  subst ru
  by_cases e1 : n = 1
  · subst e1
    have e2 : (List.replicate (1 : Int).toNat xs).flatten = xs := by simp
    rw [e2] at kk
    exact ⟨rRep1 K, fun j => by rw [← hK j]; exact op_rep1, c, vs, a1, rfl, ex_t W.sub a2, q xs O _ G H kk W (Ex.refl _) ⟨c, vs, rfl, a2, a3⟩⟩
  · refine ⟨rRepT K, fun j => by rw [← hK j]; exact op_repT, c, n, vs, a1, rfl, ex_t W.sub a2, n1, by omega, hn, by rw [a3.length]; exact hz, fun p hp => ?_⟩
    have s : Stp B.T [] G H (upd G p (.tup (List.replicate n.toNat vs).flatten)) (upd H p (.tup (List.replicate n.toNat vs).flatten)) := Stp.new W.sub hp
    exact q _ O _ _ _ kk (W.step s) s.g ⟨p, _, rfl, SqT.of upd_same, (a3.rep n.toNat).mono fun _ _ z => rb.mono s.g z⟩
end
end Sk


set_option Elab.async false
set_option linter.all false
set_option maxRecDepth 100000
set_option maxHeartbeats 4100000
/-! Sk44: own exceptions told by a Hook. -/
namespace Sk
open PySem L2 Evl
/-- an error of the class at S is what «except S» names -/
theorem exm_self {K : PySem.W.Frag} {S : Addr} (h1 : PySem.W.subIn K (.ref S) (.type "BaseException") = some true) (h2 : PySem.W.isClsIn K S = true) (h3 : PySem.W.typeIn K (.ref S) = some (.type "type")) (h4 : PySem.W.subIn K (.ref S) (.ref S) = some true) :
    PySem.W.exmOne K (.ref S) (.ref S) = some true := by
  have e1 : (PySem.W.subIn K (.ref S) (.type "BaseException") == some true) = true := by rw [h1] <;> rfl
  have e2 : ((PySem.W.clsIn K S).isSome && PySem.W.typeIn K (.ref S) == some (.type "type")) = true := by
    have h2' : (PySem.W.clsIn K S).isSome = true := h2
    rw [h2', h3] <;> rfl
  show (if (PySem.W.subIn K (.ref S) (.type "BaseException") == some true) = true then (if ((PySem.W.clsIn K S).isSome && PySem.W.typeIn K (.ref S) == some (.type "type")) = true then PySem.W.subIn K (.ref S) (.ref S) else none) else none) = some true
  rw [if_pos e1, if_pos e2]
  exact h4
/-- an own exception class: its name, its __init__, its fields -/
structure XcD where
  n : Str
  qual : Str
  st : Stmt
  fs : List Str
abbrev FnB : Type := Option (Str × Str × Arguments × FuncBody × Scope × Addr × Value × Addr)
abbrev XcD.f (K : Fg) (x : XcD) : Addr := He.fAd K (x.n, some "__init__")
abbrev XcD.c (K : Fg) (x : XcD) : Addr := He.ga K x.n
def fnB (K : Fg) (x : XcD) : FnB := match K.lookup (x.f K) with
  | some ⟨_, _, .func fd, _⟩ => some (fd.name, fd.qualname, fd.params, fd.body, fd.scope, fd.globals, fd.defaults, fd.builtins)
  | _ => none
def XcD.val (x : XcD) : FnB := some ("__init__", x.qual, defArgs x.st, .stmts (defBody x.st), defScope x.st, mainGlobals, .none, builtinsNs)
def clB (K : Fg) (C : Addr) : Bool := match K.lookup C with
  | some ⟨.type "type", _, .cls cd, sl⟩ => (match cd.mro, sl.toList with
    | .ref C' :: bm, [_, _, _, _, some (.builtin n), _] => C' == C && (n == "ValueError.__new__" && (!cd.hasDel && (cd.hasDict && PySem.HandSPX.refsVE bm)))
    | _, _ => false)
  | _ => false
def coB (K : Fg) (file : Str) (v : Value) : Bool := match v with
  | .ref cda => (match K.lookup cda with
    | some ⟨_, _, .fields vs, _⟩ => (match (vs[2]? : Option Value) with
      | some (Value.str f _) => file == f
      | _ => false)
    | _ => false)
  | _ => false
def ceB (K : Fg) (C : Addr) (cl : List (Str × Addr)) : Bool := match cl with
  | [(x, cc)] => decide (x = "__class__") && (match K.lookup cc with
    | some ⟨_, _, .cell (some (.ref C')), _⟩ => C' == C
    | _ => false)
  | _ => false
def fdB (K : Fg) (file : Str) (x : XcD) : Bool := match K.lookup (x.f K) with
  | some ⟨_, _, .func fd, _⟩ => PySem.W.codeIn K fd.code x.qual && (coB K file fd.code && ceB K (x.c K) fd.closure)
  | _ => false
theorem clB_ok {K : Fg} {C : Addr} (q : clB K C = true) : ∃ nm q N bs bm sn sub ab col dd k0 k1 k2 k3 k5, K.lookup C = some (excClassObj nm q C N bs bm true sn sub ab col dd k0 k1 k2 k3 k5 "ValueError.__new__") ∧ PySem.HandSPX.refsVE bm = true := by
  unfold clB at q
  split at q
  · rename_i dd cd sl ho
    split at q
    · rename_i C' bm k0 k1 k2 k3 n k5 hm hs
      simp only [Bool.and_eq_true, beq_iff_eq, Bool.not_eq_true'] at q
      obtain ⟨rfl, rfl, hdel, hd1, ht⟩ := q
      obtain ⟨nm, bs, mro, ns, qn, hd, sn, sub, ab, col, del⟩ := cd
      dsimp only at hm hdel hd1
      subst hm hdel hd1
      have hsl : sl = #[k0, k1, k2, k3, some (.builtin "ValueError.__new__"), k5] := by
        obtain ⟨l⟩ := sl
        simp only at hs
        rw [hs]
      subst hsl
      exact ⟨nm, qn, ns, bs, bm, sn, sub, ab, col, dd, k0, k1, k2, k3, k5, ho, ht⟩
    · cases q
  · cases q
def XcD.ok (K : Fg) (file : Str) (x : XcD) : Bool :=
  clB K (x.c K) && (decide (PySem.W.findIn K (.ref (x.c K)) "__setattr__" = some (some (.builtin "object.__setattr__"))) && (decide (PySem.W.subIn K (.ref (x.c K)) (.type "BaseException") = some true) && (decide (PySem.W.typeIn K (.ref (x.c K)) = some (.type "type")) && (PySem.W.keepIn K (.ref (x.c K)) &&
  (decide (PySem.W.nsIn K mainGlobals x.n = some (some (.ref (x.c K)))) && (decide (PySem.W.findIn K (.ref (x.c K)) "__init__" = some (some (.ref (x.f K)))) && (decide (PySem.W.typeIn K (.ref (x.f K)) = some (.type "function")) && (fdB K file x &&
  (decide (PySem.W.mroIn K (x.c K) (.ref (x.c K)) = some true) && (decide (PySem.W.ks_superIn K (x.c K) (x.c K) "__init__" = some (some (.builtin "ValueError.__init__"))) && (decide (PySem.W.subIn K (.ref (x.c K)) (.type "ValueError") = some true) && (decide (PySem.W.nsIn K cStatics "thirdparty.any" = some none) && (PySem.W.isClsIn K (x.c K) &&
  (decide (PySem.W.subIn K (.ref (x.c K)) (.ref (x.c K)) = some true) && (xfB K (x.c K) && x.fs.all fun f => decide (PySem.W.findIn K (.ref (x.c K)) f = some none))))))))))))))))
theorem xd_of {K : Fg} {h : Heap} {mg : Str → Option Value} (X : K.In h) (G : h.Ns mainGlobals mg) (pm : Module) (x : XcD) (e : fnB K x = x.val) (c : x.ok K pm.file = true) (hsup : mg "super" = none) (top : (pm.scope.names.lookup ("super" : Str)).isSome = false)
    (hb : ∀ kV dc pmV an cda ct cc, Binds K (PySem.W.fnX "__init__" x.qual (defArgs x.st) (defBody x.st) (defScope x.st) [("__class__", cc)] .none kV dc pmV an (.ref cda) ct) ("self" :: x.fs) []) : Nonempty (Xd pm K mg x.n (x.c K) x.qual x.st x.fs) := by
  unfold XcD.ok at c
  simp only [Bool.and_eq_true, decide_eq_true_eq] at c
  obtain ⟨c1, c2, c3, c4, c5, c6, c7, c8, c9, c10, c11, c12, c13, c14, c15, c16, c17⟩ := c
  unfold fdB at c9
  unfold fnB XcD.val at e
  split at e
  · rename_i oc od fd osl hl
    rw [hl] at c9
    dsimp only at c9
    simp only [Bool.and_eq_true] at c9
    obtain ⟨d1, d2, d3⟩ := c9
    obtain ⟨n1, n2, n3, n4, n5, n6, n7, n8, n9, n10, n11, n12, n13, n14, n15⟩ := fd
    simp only [Option.some.injEq, Prod.mk.injEq] at e
    obtain ⟨h1, h2, h3, h4, h5, h6, h7, h8⟩ := e
    dsimp only at d1 d2 d3
    subst h1 h2 h3 h4 h5 h6 h7 h8
    unfold coB at d2
    split at d2
    · rename_i cda
      split at d2
      · rename_i ccl cdd vs ccs hcd
        split at d2
        · rename_i file tf hv
          unfold ceB at d3
          split at d3
          · rename_i xn cc
            simp only [Bool.and_eq_true, decide_eq_true_eq] at d3
            obtain ⟨rfl, d3⟩ := d3
            split at d3
            · rename_i cl cld C' csl hcc
              have eC := beq_iff_eq.mp d3
              subst eC
              exact ⟨⟨x.f K, _, ⟨⟨clB_ok c1, c2, c3, c4, c5⟩, ⟨oc, od, n9, n10, n11, n12, cda, n14, osl, cc, rfl, hl, d1, ⟨ccl, cdd, vs, ccs, file, tf, hcd, hv, d2⟩, cl, cld, csl, hcc⟩, c10, hsup, top, c11, c12, c13⟩, PySem.W.mg_of X G c6, c7, c8, hb _ _ _ _ _ _ _, fun f hf => of_decide_eq_true (List.all_eq_true.mp c17 f hf), exm_self c3 c14 c4 c15, xfB_ok c16⟩⟩
            · cases d3
          · cases d3
        · cases d2
      · cases d2
    · cases d2
  · cases e
/-- HookX over a part that has the statics too, and own exceptions -/
def Kz (n : Nat) (g : Addr → Option Obj) : Fg := He.frT g (cStatics :: He.asD g n)
def obsZ (n : Nat) (fa : List He.Fa) (fn : List He.DefD) (ts : List He.Tab) (tf : List He.Defn) (ex : Fg → Bool) (g : Addr → Option Obj) : He.AlX := (He.obsT fa fn ts (Kz n g), ex (Kz n g) && He.tabsB g tf (Kz n g))
theorem saysZ_of {n : Nat} {fa : List He.Fa} {fn : List He.DefD} {ts : List He.Tab} {tf : List He.Defn} {ex : Fg → Bool} {w : World} {h : Heap} (e : obsZ n fa fn ts tf ex h.get? = He.valX fn ts w) : He.SaysX fa fn ts tf ex w h (Kz n h.get?) := by
  have e1 : He.obsT fa fn ts (Kz n h.get?) = He.valT fn ts w := congrArg (fun z : He.AlX => z.1) e
  have e2 : (ex (Kz n h.get?) && He.tabsB h.get? tf (Kz n h.get?)) = true := congrArg (fun z : He.AlX => z.2) e
  obtain ⟨h1, h2⟩ := He.ba e2
  have key : ∀ p ∈ tf, PySem.W.codeHdIn (Kz n h.get?) (He.cT (Kz n h.get?) p).1 (He.cT (Kz n h.get?) p).2 = true ∧ ∃ o, h.get? (He.cT (Kz n h.get?) p).2 = some o ∧ He.emptyTab o = true := fun p hp => by
    obtain ⟨h3, h4⟩ := He.ba (List.all_eq_true.mp h2 p hp)
    refine ⟨h3, ?_⟩
    cases q : h.get? (He.cT (Kz n h.get?) p).2 with
    | none =>
      rw [q] at h4
      cases h4
    | some o =>
      rw [q] at h4
      exact ⟨o, rfl, h4⟩
  exact ⟨e1, h1, fun p hp => (key p hp).1, fun p hp => by
    obtain ⟨_, o, q, z⟩ := key p hp
    exact He.frT_none q z, fun p hp => by
    obtain ⟨_, o, q, z⟩ := key p hp
    rw [q, He.emptyTab_eq z]⟩
def hookY (n : Nat) (fa : List He.Fa) (fn : List He.DefD) (ts : List He.Tab) (tf : List He.Defn) (ex : PySem.W.Frag → Bool) (xs : List XcD) : PySem.W.Hook where
  α := He.AlX × List FnB
  obs := fun s => (obsZ n fa fn ts tf ex s.heap.get?, xs.map (fnB (Kz n s.heap.get?)))
  val := fun w => (He.valX fn ts w, xs.map XcD.val)
  says := fun w h => ∃ K : PySem.W.Frag, K.In h ∧ He.SaysX fa fn ts tf ex w h K ∧ xs.map (fnB K) = xs.map XcD.val
  of := fun _ _ e => ⟨_, He.frT_in, saysZ_of (congrArg Prod.fst e), congrArg Prod.snd e⟩
  keeps := fun _ _ _ ⟨K, hK, c, e⟩ k => ⟨K, PySem.W.Frag.In.keeps hK k, ⟨c.t, c.more, c.hd, c.out, fun p hp => k _ _ (c.empty p hp)⟩, e⟩
end Sk


set_option Elab.async false
set_option linter.all false
set_option maxRecDepth 100000
set_option maxHeartbeats 4100000
/-! Sk45: dict(d); d != e of dicts of deep data; constants that are tuples. -/
namespace Sk
open PySem PySem.Spec PyProof.Rows L2 Evl
def rNeDk (K : PySem.W.Frag) : R2 := fun x y H Q => ∃ (a b : Addr) (ks ls : List (Key × V)), x = .ref a ∧ y = .ref b ∧ H a = some (.dK ks) ∧ H b = some (.dK ls) ∧ ks.length = ls.length ∧ (∀ p ∈ ks, ∃ u d, valV ls p.1 = some u ∧ Dp K H p.2 d ∧ Dp K H u d ∧ SeqAt.shaped d = true ∧ d.canLay0 = true ∧ d.depth ≤ 64 ∧ PyData.eqv d d = true) ∧ Q (.bl false) H
section
variable {X : Cx} {pins : List (Addr × Obj)} {σ : L2.St} {H : Hp} {s : Shared}
theorem hits_deep (I : Inv X pins σ H s) {A : Around} (hu : A.units + 64 < cLine) {kvs : List (Key × V)} {vb : List (Key × Value)} (rb : KV kvs vb) {ks : List (Key × V)} {va : List (Key × Value)} (ra : KV ks va) :
    (∀ p ∈ ks, ∃ u d, valV kvs p.1 = some u ∧ Dp X.K H p.2 d ∧ Dp X.K H u d ∧ SeqAt.shaped d = true ∧ d.canLay0 = true ∧ d.depth ≤ 64 ∧ PyData.eqv d d = true) → PySem.W.KeqHits A s vb va true := by
  unfold KV at ra
  induction ra with
  | nil => intro _; exact .nil
  | @cons p q ps qs h t ih =>
    intro hp
    obtain ⟨h1, h2⟩ := h
    obtain ⟨u, d, e, f1, f2, f3, f4, f5, f6⟩ := hp p List.mem_cons_self
    have rr : RelO (some u) (valueAt vb p.1) := by rw [← e]; exact rb.val p.1
    obtain ⟨y, hy, ry⟩ := rr.some_of
    obtain ⟨k, v⟩ := q
    have h1' : p.1 = k := h1
    rw [h1'] at hy
    obtain ⟨as, r1⟩ := Dp.reads I d p.2 v f1 h2
    obtain ⟨bs, r2⟩ := Dp.reads I d u y f2 ry
    have e3 := SeqAt.eqAt_reads d d A s v y as bs r1 r2 f4 f4 (by omega)
    rw [f6] at e3
    show PySem.W.KeqHits A s vb ((k, v) :: qs) (true && true)
    exact .hit hy e3 (ih fun p' hm => hp p' (List.mem_cons_of_mem _ hm))
theorem op_neDk (hu : X.A.units + 65 < cLine) : OpR X (compareOp .NotEq) (rNeDk X.K) := by
  intro pins s σ H x y v u Q I rx ry h
  obtain ⟨a, b, ks, ls, rfl, rfl, ea, eb, hlen, hp, q⟩ := h
  obtain rfl : v = Value.ref a := rx
  obtain rfl : u = Value.ref b := ry
  obtain ⟨_, ya, va, ra, da⟩ := (show ObjOk X.prog X.w H s.heap a (.dK ks) from I.hok a _ ea)
  obtain ⟨_, yb, vb, rb, db⟩ := (show ObjOk X.prog X.w H s.heap b (.dK ls) from I.hok b _ eb)
  have hl : va.length = vb.length := by rw [← ra.length, ← rb.length]; exact hlen
  exact PySem.W.keq_ne (knd := mixKind X.prog X.w) (r := true) ya yb da db (by omega) (fun _ => hits_deep I (A := X.A.in1) (by show X.A.units + 1 + 64 < cLine; omega) rb ra hp) ⟨.bl false, H, I, by simp [hl, L2.RelV], q⟩
end
section
variable {ι : Type} {F : ι → Cx} {K : Fg} {B : Bs} {Γ : Gm} {O : List Own} {α β γ : Type} {ra : Rp α} {rb : Rp β} {rc : Rp γ} {e : Expr}
variable {P : Program} {w : World} {mg : Str → Option Value} {base : Heap} {k : Nat}
/-- dict(d): a copy of one's own -/
theorem c_dictC {x : α} {xs : List (Key × γ)} [hd : DkR O ra x rc xs] {Φ : Addr → List Own → Prop} (kk : ∀ p, p ∉ B.M → Φ p (⟨p, oDk rc, xs⟩ :: O)) : CW F K B Γ O (.type "dict") (fOne ra) x rAdr Φ := fun σ G H vs W ⟨v, e, rv⟩ Q q => by
  obtain ⟨c, kvs, h1, h2, h3⟩ := hd.get W rv
  refine ⟨_, fun j => call_dictD, c, kvs, by rw [e, h1], .inl h2, fun p hp => ?_⟩
  exact q p _ (.ref p) G _ (kk p (W.notM hp)) (W.newOwn hp (r := oDk rc) (x := xs) ⟨kvs, rfl, h3⟩) (Ex.refl _) rfl
theorem dicR_val {p : V → γ → Prop} {kvs : List (Key × V)} {xs : List (Key × γ)} (h : DicR p kvs xs) : ∀ q ∈ kvs, ∃ z, (q.1, z) ∈ xs ∧ p q.2 z := by
  induction kvs generalizing xs with
  | nil => intro q hq; cases hq
  | cons u kvs ih =>
    cases xs with
    | nil => exact h.elim
    | cons y xs =>
      obtain ⟨h1, h2, h3⟩ := h
      intro q hq
      rcases List.mem_cons.mp hq with e | e
      · subst e
        exact ⟨y.2, by rw [h1]; exact List.mem_cons_self, h2⟩
      · obtain ⟨z, hz, hp⟩ := ih h3 q e
        exact ⟨z, List.mem_cons_of_mem _ hz, hp⟩
/-- d != e of dicts that hold the same: False -/
theorem o_neDk [fam : Fam F P w K mg base k] {enc : γ → PyData} {n : Nat} {good : γ → Prop} [hr : Dat rc enc n good] {x : α} {y : β} {xs : List (Key × γ)} [h1 : DkR O ra x rc xs] [h2 : DkR O rb y rc xs] {Ψ : Bool → List Own → Prop} (hg : ∀ p ∈ xs, good p.2) (hn : ∀ p ∈ xs, valX xs p.1 = some p.2) (kk : Ψ false O) (hnn : n ≤ 64 := by decide) :
    OW F K B Γ O (compareOp .NotEq) ra rb x y rBool Ψ := fun σ G H v w W rv rw Q q => by
  obtain ⟨c, ks, a1, a2, a3⟩ := h1.get W rv
  obtain ⟨d, ls, b1, b2, b3⟩ := h2.get W rw
  refine ⟨rNeDk K, fun j => by rw [← fam.ka j]; exact op_neDk (by have := (fam.rm j).un; omega), c, d, ks, ls, a1, b1, a2, b2, by rw [a3.length, b3.length], fun p hp => ?_, q _ O _ G H kk W (Ex.refl _) rfl⟩
  obtain ⟨z, hz, hpz⟩ := dicR_val a3 p hp
  obtain ⟨u, e1, e2⟩ := b3.val_some (hn _ hz)
  have g := hg _ hz
  exact ⟨u, enc z, e1, hr.dp W.sub hpz, hr.dp W.sub e2, shp hr g hnn, hr.lay g, Nat.le_trans (hr.dep z) hnn, (hr.eqv z z).mpr rfl⟩
end
/-! ### constants -/
/-- a constant as a def's text has it -/
inductive CD where
  | int (i : Int)
  | str (x : Str)
  | tup (l : List CD)
mutual
def cdB (K : Fg) : CD → Value → Bool
  | .int i, .int j _ => decide (j = i)
  | .str x, .str y _ => decide (y = x)
  | .tup l, .ref a => (match K.lookup a with
    | some ⟨.type c, _, .seq its _, _⟩ => decide (c = "tuple") && (decide (its.size ≤ sizeLine) && cdsB K l its.toList)
    | _ => false)
  | _, _ => false
def cdsB (K : Fg) : List CD → List Value → Bool
  | [], [] => true
  | d :: ds, v :: vs => cdB K d v && cdsB K ds vs
  | _, _ => false
end
def cdOf : Value → V
  | .int i _ => .int i
  | .str x _ => .str x
  | .ref a => .ref a
  | _ => .non
theorem cd_rel {K : Fg} : ∀ {d : CD} {u : Value}, cdB K d u = true → L2.RelV (cdOf u) u
  | .int i, u, h => by
    cases u with
    | int j t => exact ⟨t, rfl⟩
    | _ => simp [cdB] at h
  | .str x, u, h => by
    cases u with
    | str y t => exact ⟨t, rfl⟩
    | _ => simp [cdB] at h
  | .tup l, u, h => by
    cases u with
    | ref a => exact rfl
    | _ => simp [cdB] at h
theorem cds_rel {K : Fg} : ∀ {ds : List CD} {us : List Value}, cdsB K ds us = true → Vals (us.map cdOf) us
  | [], [], _ => .nil
  | d :: ds, u :: us, h => by
    unfold cdsB at h
    obtain ⟨h1, h2⟩ := Bool.and_eq_true_iff.mp h
    exact .cons (cd_rel h1) (cds_rel h2)
  | [], _ :: _, h => by simp [cdsB] at h
  | _ :: _, [], h => by simp [cdsB] at h
theorem cd_tup {K : Fg} {l : List CD} {u : Value} (h : cdB K (.tup l) u = true) : ∃ a us, cdOf u = .ref a ∧ (∀ H, SqT K H a (us.map cdOf)) ∧ cdsB K l us = true := by
  cases u with
  | ref a =>
    unfold cdB at h
    split at h
    · rename_i c od its n sl hl
      simp only [Bool.and_eq_true, decide_eq_true_eq] at h
      obtain ⟨h1, h2, h3⟩ := h
      refine ⟨a, its.toList, rfl, fun H => .inr ⟨_, its, n, hl, congrArg Value.type h1, rfl, h2, cds_rel h3⟩, h3⟩
    · cases h
  | _ => simp [cdB] at h
section
variable {K : Fg} {α β : Type}
theorem cr_int {i : Int} {u : Value} {G : Hp} (h : cdB K (.int i) u = true) : rInt.rep K G (cdOf u) i := by
  cases u with
  | int j t =>
    have e : j = i := of_decide_eq_true h
    subst e
    exact rfl
  | _ => simp [cdB] at h
theorem cr_str {x : Str} {u : Value} {G : Hp} (h : cdB K (.str x) u = true) : rStr.rep K G (cdOf u) x := by
  cases u with
  | str j t =>
    have e : j = x := of_decide_eq_true h
    subst e
    exact rfl
  | _ => simp [cdB] at h
/-- what is told of one item; of a row of items -/
abbrev CrOk (K : Fg) (r : Rp α) (f : α → CD) : Prop := ∀ x u G, cdB K (f x) u = true → r.rep K G (cdOf u) x
abbrev CrF (K : Fg) (r : RpF α) (g : α → List CD) : Prop := ∀ x us G, cdsB K (g x) us = true → r.rep K G (us.map cdOf) x
theorem cr_one {r : Rp α} {f : α → CD} (h : CrOk K r f) : CrF K (fOne r) fun x => [f x] := fun x us G e => by
  match us, e with
  | [u], e =>
    have e : (cdB K (f x) u && true) = true := e
    rw [Bool.and_true] at e
    exact ⟨_, rfl, h x u G e⟩
  | [], e => cases e
  | u :: v :: us, e =>
    have e : (cdB K (f x) u && false) = true := e
    rw [Bool.and_false] at e
    cases e
theorem cr_cons {r : Rp α} {f : α → CD} {rs : RpF β} {g : β → List CD} (h : CrOk K r f) (h2 : CrF K rs g) : CrF K (fCons r rs) fun x => f x.1 :: g x.2 := fun x us G e => by
  match us, e with
  | u :: us, e =>
    obtain ⟨e1, e2⟩ := Bool.and_eq_true_iff.mp (show (cdB K (f x.1) u && cdsB K (g x.2) us) = true from e)
    exact ⟨_, _, rfl, h _ _ _ e1, h2 _ _ _ e2⟩
  | [], e => cases e
theorem cr_tup {rs : RpF α} {g : α → List CD} (h : CrF K rs g) : CrOk K (rTup rs) fun x => .tup (g x) := fun x u G e => by
  obtain ⟨a, us, e1, e2, e3⟩ := cd_tup e
  exact ⟨a, _, e1, e2 G, h x us G e3⟩
theorem cr_all {r : Rp α} {f : α → CD} (h : CrOk K r f) {G : Hp} : ∀ {xs : List α} {us : List Value}, cdsB K (xs.map f) us = true → All2 (r.rep K G) (us.map cdOf) xs
  | [], [], _ => trivial
  | x :: xs, u :: us, e => by
    obtain ⟨e1, e2⟩ := Bool.and_eq_true_iff.mp (show (cdB K (f x) u && cdsB K (xs.map f) us) = true from e)
    exact ⟨h _ _ _ e1, cr_all h e2⟩
  | [], _ :: _, e => by cases e
  | _ :: _, [], e => by cases e
theorem cr_tpv {r : Rp α} {f : α → CD} (h : CrOk K r f) : CrOk K (rTpv r) fun xs => .tup (xs.map f) := fun xs u G e => by
  obtain ⟨a, us, e1, e2, e3⟩ := cd_tup e
  exact ⟨a, _, e1, e2 G, cr_all h e3⟩
/-- the module's name is this constant -/
def kcB (K : Fg) (n : Str) (d : CD) : Bool := match PySem.W.nsIn K mainGlobals n with
  | some (some u) => cdB K d u
  | _ => false
theorem kc_ok {h : Heap} {mg : Str → Option Value} (X : K.In h) (G : h.Ns mainGlobals mg) {n : Str} {d : CD} (c : kcB K n d = true) : ∃ u, mg n = some u ∧ L2.RelV (cdOf u) u ∧ cdB K d u = true := by
  unfold kcB at c
  split at c
  · rename_i u e
    exact ⟨u, PySem.W.mg_of X G e, cd_rel c, c⟩
  · cases c
end
end Sk


set_option Elab.async false
set_option linter.all false
set_option maxRecDepth 100000
set_option maxHeartbeats 4100000
/-! Sk46: a def that makes generators and may raise. -/
namespace Sk
open PySem PySem.Spec PyProof.Rows L2 Evl
open GxR (TabB TabG Tabbed)
section
variable {P : Program} {w : World} {K : Fg} {mg : Str → Option Value} {base : Heap} {k : Nat} {α β : Type} {ra : RpF α} {rb : Rp β} {pre : α → Prop} {own : α → List Own} {post : α → β → List Own → Prop} {xpost : α → Addr → List (Str × V) → List Own → Prop}
theorem okXC {x qual : Str} {st : Stmt} {f c : Addr} {fd : FuncData} {N ps : List Str} {sp : Sp} (F : Fun K x qual st f fd) (hc : fd.code = .ref c) (S : FnScope N ps (defScope st)) (len : ∀ vs H Q E, sp vs H Q E → vs.length = ps.length)
    (hbody : ∀ (A : Around) (outer : List Env) (s : Shared) (H : Hp) (vs : List V) (Q : VK) (E : XK), Room k (A.deeper (envOfC qual (defScope st) s.heap.objs.size f (.ref c))) → sp vs H Q E →
      ∃ t, PSs (cxOf (L2.CX P w) P w K mg base N qual (defScope st) f (.ref c) A outer s H E) (defBody st) t ∧ t { nx := fun _ H' => Q .non H', rt := Q } (start N vs) H) : FnOk P w K mg base (L2.CX P w) (k + 1) f fd ps sp := by
  obtain ⟨oc, od, kV, doc, pm, an, cdv, ct, osl, rfl, lk, hcd⟩ := F.ex
  have e : cdv = .ref c := hc
  subst e
  exact fn_of lk hcd S len fun A outer s H vs Q E hr hsp => hbody A outer s H vs Q E hr hsp
theorem fn_gx {x qual : Str} {st : Stmt} {f c : Addr} {fd : FuncData} {N ps : List Str} {m : Nat} {g : α → Gm} [hl : Len ra m] [ha : Args ra g]
    (F : Fun K x qual st f fd) (hc : fd.code = .ref c) (S : FnScope N ps (defScope st)) (T : List Addr)
    (h : ∀ (A : Around) (outer : List Env) (s : Shared) (G H : Hp) (E : XK) (x : α) (Q : VK), Fam (Us (XfE P w K mg base N qual st f (.ref c) A outer s H E)) P w K mg base k → pre x →
      Takes (XfE P w K mg base N qual st f (.ref c) A outer s H E) (fun cls d _ H' => E cls d H') →
      PassesOwn (model (XfE P w K mg base N qual st f (.ref c) A outer s H E).prog (XfE P w K mg base N qual st f (.ref c) A outer s H E).w) (XfE P w K mg base N qual st f (.ref c) A outer s H E).A (XfE P w K mg base N qual st f (.ref c) A outer s H E).env (XfE P w K mg base N qual st f (.ref c) A outer s H E).xe →
      (∀ {Γ : Gm} {O' : List Own} {y : β}, post x y O' → RT K ⟨T, (own x).map (·.a), G, H, []⟩ Γ O' rb y { nx := fun _ H' => Q .non H', rt := Q }) →
      (∀ {Γ : Gm} {O' : List Own} {C : Addr} {fl : List (Str × V)}, xpost x C fl O' → XT K ⟨T, (own x).map (·.a), G, H, []⟩ Γ O' C fl (fun cls d _ H' => E cls d H')) →
      DS (XfE P w K mg base N qual st f (.ref c) A outer s H E) K ⟨T, (own x).map (·.a), G, H, []⟩ (g x ++ List.replicate (N.length - m) none) (own x) (defBody st) { nx := fun _ H' => Q .non H', rt := Q }) (hm : m = ps.length := by rfl) :
    FnOk P w K mg base (L2.CX P w) (k + 1) f fd ps (spX K T ra pre own rb post xpost) := by
  refine okXC F hc S (fun vs H Q E ⟨G, x, _, _, r, _⟩ => by rw [hl.len r]; exact hm) fun A outer s H vs Q E hr ⟨G, x, sub, tab, r, hp, ho, hn, q, qx⟩ => ?_
  have fam : Fam (Us (XfE P w K mg base N qual st f (.ref c) A outer s H E)) P w K mg base k := ⟨fun _ => rfl, fun _ => rfl, fun _ => rfl, fun _ => rfl, fun _ => rfl, fun _ => hr, fun _ => rfl, fun _ => S.nd⟩
  have tk : Takes (XfE P w K mg base N qual st f (.ref c) A outer s H E) (fun cls d _ H' => E cls d H') := takes_of rfl rfl rfl rfl
  have hx := h A outer s G H E x Q fam hp tk (passes_of rfl) (fun {Γ O' y} hpost v σ G' H' W rv => q v y O' G' H' W.st (fun w hw => let ⟨a, b, c, d⟩ := W.own w hw; ⟨a, b, c, d⟩) W.nd rv hpost)
    (fun {Γ O' C fl} hpost d σ G' H' W rv => qx C fl d O' G' H' W.st (fun w hw => let ⟨a, b, c, d⟩ := W.own w hw; ⟨a, b, c, d⟩) W.nd rv hpost)
  refine ⟨_, WSs.pss, hx (L2.start N vs) G H ⟨Stp.refl sub, tab, fun _ z => absurd z (by simp), ?_, fun w hw => ?_, hn, fun c hc => ?_⟩⟩
  · have e := ha.env (m := N.length - m) r
    unfold L2.start
    rw [hl.len r]
    exact e
  · obtain ⟨a, b, c⟩ := ho w hw
    exact ⟨a, b, c, .inr (List.mem_map.mpr ⟨w, hw, rfl⟩)⟩
  · obtain ⟨w, hw, e⟩ := List.mem_map.mp hc
    obtain ⟨⟨o, a, _⟩, _⟩ := ho w hw
    show H c ≠ none
    rw [← e, a]
    simp
theorem tabFX {qual : Str} {st : Stmt} {f c P0 : Addr} {N : List Str} {A : Around} {outer : List Env} {s : Shared} {H : Hp} {E : XK} (tb : TabB base mg c P0) : TabF (Us (XfE P w K mg base N qual st f (.ref c) A outer s H E)) P0 := fun _ => ⟨c, tb, rfl⟩
end
section
variable {ι : Type} {F : ι → Cx} {K : Fg} {B : Bs} {Γ : Gm} {O : List Own} {γ α β δ : Type} {rc : Rp γ} {n : Str} {p pos : Pos} {P : Program} {w : World} {mg : Str → Option Value} {base : Heap} {k : Nat} {a b c d : Expr} {ra : Rp α} {rb : Rp β} {rd : Rp δ}
/-- a call of a def without arguments -/
theorem d_call0 [fam : Fam F P w K mg base k] {j : Nat} {st : Stmt} {ps : List Str} {sp : Sp} (D : Df K mg n st ps) (G : FnOk P w K mg base CX0 j D.f D.fd ps sp) {Φ : γ → List Own → Prop}
    (h : SW K B Γ O sp [] fNil () rc Φ) (hj : j ≤ k := by decide) (hdb : (n == ("__debug__" : Str)) = false := by decide) (hg : ∀ i, Gl (F i) n := by intro _; rfl) :
    DW F K B Γ O (.Call (.Name n p) [] [] pos) rc Φ := by
  intro σ G' H W Q q
  refine ⟨tCall sp [] E0 tNil, fun i => ?_, h σ G' H [] W rfl Q fun z O' u G2 H2 k2 W2 e2 r2 => q z O' u G2 H2 k2 W2 e2 r2⟩
  have h1 := fam.pr i
  have h2 := fam.wd i
  have h3 := fam.ka i
  have h4 := fam.mg i
  have h5 := fam.bs i
  have G2 : FnOk (F i).prog (F i).w (F i).K (F i).mg (F i).base CX0 j D.f D.fd ps sp := by rw [h1, h2, h3, h4, h5]; exact G
  have m2 : (F i).mg n = some (.ref D.f) := by rw [h4]; exact D.m
  have k2 : PySem.W.keepIn (F i).K (.ref D.f) = true := by rw [h3]; exact D.F.kp
  have b2 : Binds (F i).K D.fd ps [] := by rw [h3]; exact D.b
  exact pe_call0 G2 ((fam.rm i).mono hj) (hg i) m2 k2 b2 .nil pass0 (hdb := hdb)
theorem d_chain3P {op op' op2 : CmpOp} {x y z : Bool} (h : DW F K B Γ O a ra fun u O1 => DW F K B Γ O1 b rb fun v O2 => OW F K B Γ O2 (compareOp op) ra rb u v rBool fun t O3 =>
      t = x ∧ O3 = O ∧ (x = true → DW F K B Γ O c rc fun w O4 => OW F K B Γ O4 (compareOp op') rb rc v w rBool fun t2 O5 => t2 = y ∧ O5 = O ∧ (y = true → DW F K B Γ O d rd fun q O6 => OW F K B Γ O6 (compareOp op2) rc rd w q rBool fun t3 O' => t3 = z ∧ O' = O)))
    (hm : lastMarks [op, op', op2] [b, c, d] = false := by with_unfolding_all rfl) : DW F K B Γ O (.Compare a [op, op', op2] [b, c, d] pos) rBool fun t O' => t = (x && (y && z)) ∧ O' = O := by
  refine d_chain3 (rb := rb) (rc := rc) (rd := rd) (d_mono h fun u O1 h1 => d_mono h1 fun v O2 h2 => fun σ G H vv ww W r1 r2 Q q => h2 σ G H vv ww W r1 r2 Q fun t O3 u' G' H' ⟨e1, e2, e3⟩ W' ex r => q t O3 u' G' H' ?_ W' ex r) hm
  subst e1 e2
  cases t with
  | false => exact ⟨fun z => Bool.noConfusion z, fun _ => ⟨rfl, rfl⟩⟩
  | true =>
    refine ⟨fun _ => d_mono (e3 rfl) fun w O4 h4 => fun σ G H vv ww W r1 r2 Q q => h4 σ G H vv ww W r1 r2 Q fun t2 O5 u' G' H' ⟨e4, e5, e6⟩ W' ex r => q t2 O5 u' G' H' ?_ W' ex r, fun z => Bool.noConfusion z⟩
    subst e4 e5
    cases t2 with
    | false => exact ⟨fun z => Bool.noConfusion z, fun _ => ⟨rfl, rfl⟩⟩
    | true => exact ⟨fun _ => e6 rfl, fun z => Bool.noConfusion z⟩
end
end Sk


set_option Elab.async false
set_option linter.all false
set_option maxRecDepth 100000
set_option maxHeartbeats 4100000
/-! Sk47: min, max of a tuple of ints. -/
namespace Sk
open PySem PySem.Spec PyProof.Rows L2 Evl
section
variable {prog : Program} {w : World} {A : Around} {E : Value → Shared → Prop} {s : Shared} {l : Addr}
theorem minT_w {xs : Array (Int × Tok)} {Q : Value → Shared → Prop} (hh : A.handled = none) (hT : s.heap.IsTuple l (intItems xs)) (hne : 0 < xs.size)
    (h : ∀ v h' tk, (intItems xs)[argBest (fun i j => decide (numAt xs i < numAt xs j)) (xs.size - 1)]? = some v → (∀ b o, s.heap.get? b = some o → h'.get? b = some o) → Q v { s with heap := h', toks := tk }) :
    wpAny (model prog w) A (call (.builtin "min") [.ref l]) Q E s := by
  have hl : l < s.heap.objs.size := by
    obtain ⟨o, ho, _⟩ := hT
    exact Heap.lt_size ho
  refine call_min_walk (wpAny_pyIter_tuple hT ?_)
  refine ⟨_, [_, l], [_], _, _, _, _, rfl, Walks.tuple (A := A.in1) hh _ l (Nat.ne_of_lt hl) (intItems xs), ⟨⟨_, Heap.get?_push_size _ rfl, rfl, rfl⟩, hT.push _⟩, fun c hc => ?_, by simpa [intItems] using hne, CmpOf.ints_lt (numAt xs) (fun _ _ => intItems_at), fun v h' tk hP hk => ?_⟩
  · show c < (s.heap.push _).objs.size
    rw [Heap.size_push]
    rcases List.mem_cons.mp hc with e | e
    · subst e
      exact Nat.lt_succ_self _
    · rw [List.mem_singleton.mp e]
      exact Nat.lt_succ_of_lt hl
  · refine h v h' tk (by simpa [intItems] using hP) fun b o e => hk b o (fun hm => ?_) (Heap.get?_push_of_some _ e)
    rw [List.mem_singleton.mp hm] at e
    exact Nat.lt_irrefl _ (Heap.lt_size e)
theorem maxT_w {xs : Array (Int × Tok)} {Q : Value → Shared → Prop} (hh : A.handled = none) (hT : s.heap.IsTuple l (intItems xs)) (hne : 0 < xs.size)
    (h : ∀ v h' tk, (intItems xs)[argBest (fun i j => decide (numAt xs i > numAt xs j)) (xs.size - 1)]? = some v → (∀ b o, s.heap.get? b = some o → h'.get? b = some o) → Q v { s with heap := h', toks := tk }) :
    wpAny (model prog w) A (call (.builtin "max") [.ref l]) Q E s := by
  have hl : l < s.heap.objs.size := by
    obtain ⟨o, ho, _⟩ := hT
    exact Heap.lt_size ho
  refine call_max_walk (wpAny_pyIter_tuple hT ?_)
  refine ⟨_, [_, l], [_], _, _, _, _, rfl, Walks.tuple (A := A.in1) hh _ l (Nat.ne_of_lt hl) (intItems xs), ⟨⟨_, Heap.get?_push_size _ rfl, rfl, rfl⟩, hT.push _⟩, fun c hc => ?_, by simpa [intItems] using hne, CmpOf.ints_gt (numAt xs) (fun _ _ => intItems_at), fun v h' tk hP hk => ?_⟩
  · show c < (s.heap.push _).objs.size
    rw [Heap.size_push]
    rcases List.mem_cons.mp hc with e | e
    · subst e
      exact Nat.lt_succ_self _
    · rw [List.mem_singleton.mp e]
      exact Nat.lt_succ_of_lt hl
  · refine h v h' tk (by simpa [intItems] using hP) fun b o e => hk b o (fun hm => ?_) (Heap.get?_push_of_some _ e)
    rw [List.mem_singleton.mp hm] at e
    exact Nat.lt_irrefl _ (Heap.lt_size e)
end
def rMinT (K : PySem.W.Frag) : List V → Hp → VK → Prop := fun vs H Q => ∃ (a : Addr) (ns : List Int), vs = [V.ref a] ∧ SqT K H a (ns.map V.int) ∧ 0 < ns.length ∧ ∀ m, m ∈ ns → (∀ y, y ∈ ns → m ≤ y) → Q (.int m) H
def rMaxT (K : PySem.W.Frag) : List V → Hp → VK → Prop := fun vs H Q => ∃ (a : Addr) (ns : List Int), vs = [V.ref a] ∧ SqT K H a (ns.map V.int) ∧ 0 < ns.length ∧ ∀ m, m ∈ ns → (∀ y, y ∈ ns → y ≤ m) → Q (.int m) H
section
variable {X : Cx}
theorem cr_minT (hc : X.calm = true) : CallR X (.builtin "min") (rMinT X.K) := by
  intro pins s σ H vs us Q I r h
  obtain ⟨a, ns, rfl, hs, hne, q⟩ := h
  obtain ⟨its, rv, hl, _⟩ := I.tuple hs
  rw [Vals.ref1 r]
  have hi := rv.ints
  obtain ⟨xs, e⟩ := hi.allInts.items
  have hn : numsOf (intItems xs).toList = ns := by rw [← e]; exact hi.numsOf
  rw [nums_intItems] at hn
  subst hn
  rw [e] at hl
  have hsz : 0 < xs.size := by simpa using hne
  refine minT_w (I.ok.hd hc) hl hsz fun v h' tk hv hk => ?_
  obtain ⟨t, rfl⟩ := intItems_at hv
  obtain ⟨h1, h2⟩ := argBest_lt (numAt xs) (xs.size - 1)
  refine ⟨.int _, H, I.kept hk, ⟨_, rfl⟩, q _ ?_ fun a ha => ?_⟩
  · rw [numAt_eq]; exact PySem.getD_mem (by rw [List.length_map, Array.length_toList]; omega)
  · obtain ⟨j, hj, rfl⟩ := mem_getD ha
    rw [List.length_map, Array.length_toList] at hj
    rw [← numAt_eq]; exact h2 j (by omega)
theorem cr_maxT (hc : X.calm = true) : CallR X (.builtin "max") (rMaxT X.K) := by
  intro pins s σ H vs us Q I r h
  obtain ⟨a, ns, rfl, hs, hne, q⟩ := h
  obtain ⟨its, rv, hl, _⟩ := I.tuple hs
  rw [Vals.ref1 r]
  have hi := rv.ints
  obtain ⟨xs, e⟩ := hi.allInts.items
  have hn : numsOf (intItems xs).toList = ns := by rw [← e]; exact hi.numsOf
  rw [nums_intItems] at hn
  subst hn
  rw [e] at hl
  have hsz : 0 < xs.size := by simpa using hne
  refine maxT_w (I.ok.hd hc) hl hsz fun v h' tk hv hk => ?_
  obtain ⟨t, rfl⟩ := intItems_at hv
  obtain ⟨h1, h2⟩ := argBest_gt (numAt xs) (xs.size - 1)
  refine ⟨.int _, H, I.kept hk, ⟨_, rfl⟩, q _ ?_ fun a ha => ?_⟩
  · rw [numAt_eq]; exact PySem.getD_mem (by rw [List.length_map, Array.length_toList]; omega)
  · obtain ⟨j, hj, rfl⟩ := mem_getD ha
    rw [List.length_map, Array.length_toList] at hj
    rw [← numAt_eq]; exact h2 j (by omega)
end
section
variable {ι : Type} {F : ι → Cx} {K : Fg} {B : Bs} {Γ : Gm} {O : List Own}
theorem c_minT {xs : List Int} {Φ : Int → List Own → Prop} (h0 : 0 < xs.length) (kk : ∀ m, m ∈ xs → (∀ y ∈ xs, m ≤ y) → Φ m O) (hK : ∀ j, (F j).K = K := by intro _; rfl) (hc : ∀ j, (F j).calm = true := by intro _; rfl) : CW F K B Γ O (.builtin "min") (fOne (rTpv rInt)) xs rInt Φ :=
  fun σ G H vs W ⟨v, e, c, ws, h1, h2, h3⟩ Q q => ⟨rMinT K, fun j => by rw [← hK j]; exact cr_minT (hc j), c, xs, by rw [e, h1], by rw [← All2.map_int h3]; exact ex_t W.sub h2, h0, fun m h4 h5 => q m O _ G H (kk m h4 h5) W (Ex.refl _) rfl⟩
theorem c_maxT {xs : List Int} {Φ : Int → List Own → Prop} (h0 : 0 < xs.length) (kk : ∀ m, m ∈ xs → (∀ y ∈ xs, y ≤ m) → Φ m O) (hK : ∀ j, (F j).K = K := by intro _; rfl) (hc : ∀ j, (F j).calm = true := by intro _; rfl) : CW F K B Γ O (.builtin "max") (fOne (rTpv rInt)) xs rInt Φ :=
  fun σ G H vs W ⟨v, e, c, ws, h1, h2, h3⟩ Q q => ⟨rMaxT K, fun j => by rw [← hK j]; exact cr_maxT (hc j), c, xs, by rw [e, h1], by rw [← All2.map_int h3]; exact ex_t W.sub h2, h0, fun m h4 h5 => q m O _ G H (kk m h4 h5) W (Ex.refl _) rfl⟩
end
end Sk


set_option Elab.async false
set_option linter.all false
set_option maxRecDepth 100000
set_option maxHeartbeats 4100000
/-! Sk48: xs.reverse() of an own list. -/
namespace Sk
open PySem L2 Evl
section
variable {ι : Type} {F : ι → Cx} {K : Fg} {B : Bs} {Γ : Gm} {O : List Own} {α : Type} {ra : Rp α} {o : Expr} {pos apos : Pos} {P : Program} {w : World} {mg : Str → Option Value} {base : Heap} {k : Nat}
theorem All2.reverse {p : V → α → Prop} : ∀ {vs : List V} {xs : List α}, All2 p vs xs → All2 p vs.reverse xs.reverse
  | [], [], _ => trivial
  | v :: vs, x :: xs, ⟨h1, h2⟩ => by
    rw [List.reverse_cons, List.reverse_cons]
    exact (All2.reverse h2).append ⟨h1, trivial⟩
  | [], _ :: _, z => z.elim
  | _ :: _, [], z => z.elim
theorem d_rev [fam : Fam F P w K mg base k] {Φ : Unit → List Own → Prop} (h : DW F K B Γ O o rAdr fun q O1 => ∃ xs f, OwnAt O1 q (oLst ra) xs f ∧ Φ () (f ⟨q, oLst ra, xs.reverse⟩))
    (hbase : ∀ j, attributeBase o "reverse" (F j).env (eval o (F j).env) = eval o (F j).env := by intro _; rfl) (hline : (apos.endLine == pos.line) = true := by rfl) :
    DW F K B Γ O (.Call (.Attribute o "reverse" apos) [] [] pos) rNon Φ := by
  refine d_bm0 (ra := rAdr) PySem.F.plainAttrs_list PySem.F.slot_list_reverse PySem.F.type_list_reverse (fun j => mt_reverse) ?_ hbase hline
  refine d_mono h fun q O1 ⟨xs, f, hO, kk⟩ => ⟨tyO hO, ?_⟩
  intro σ G H v vs W rv e1 Q q'
  obtain ⟨ob, h2, ws, h3, h4⟩ := W.ownO hO
  subst h3
  refine ⟨q, ws, rv, e1, h2, q' () _ .non G _ kk ?_ (Ex.refl _) rfl⟩
  exact W.mutO (h := hO) (r' := oLst ra) (x' := xs.reverse) ⟨ws.reverse, rfl, h4.reverse⟩
end
end Sk


set_option Elab.async false
set_option linter.all false
set_option maxRecDepth 100000
set_option maxHeartbeats 4100000
/-! Sk49: x < y and sorted(..) of data of any depth; max(t, default=n). -/
namespace Sk
open PySem PySem.Spec PyProof.Rows L2 Evl
open PySem.W (alike alikeAll dataLt dataLe keyToks AllAlike Sortable EachIs rcLt_alike sorted_data)
/-! ### raw rules -/
def rLtD (K : PySem.W.Frag) : R2 := fun x y H Q => ∃ d e, Dp K H x d ∧ Dp K H y e ∧ alike d e = true ∧ d ≠ .none ∧ d.depth ≤ 60 ∧ Q (.bl (dataLt d e)) H
theorem op_ltD {X : Cx} (hu : X.A.units + 65 < cLine) : OpR X (compareOp .Lt) (rLtD X.K) := by
  intro pins s σ H x y v u Q I rx ry h
  obtain ⟨d, e, hd, he, ha, hn, hdep, q⟩ := h
  obtain ⟨as, r1⟩ := Dp.reads I d x v hd rx
  obtain ⟨bs, r2⟩ := Dp.reads I e y u he ry
  have z : wpAny (model X.prog X.w) X.A (compareOp .Lt v u) (EP X pins σ Q) X.xe s := rcLt_alike d e X.A s v u as bs r1 r2 ha hn (by omega) X.prog X.w X.xe (EP X pins σ Q) ⟨.bl _, H, I, rfl, q⟩
  exact z
abbrev VD := V × PyData
def rSortD (K : PySem.W.Frag) : List V → Hp → VK → Prop := fun vs H Q => ∃ (a : Addr) (bs : List VD), vs = [V.ref a] ∧ SqL K H a (bs.map (·.1)) ∧ (∀ b ∈ bs, Dp K H b.1 b.2) ∧ AllAlike (bs.map (·.2)) ∧ Sortable (bs.map (·.2)) ∧ (∀ b ∈ bs, b.2.depth ≤ 60) ∧
  ∀ p, H p = none → Q (.ref p) (upd H p (.lst ((bs.mergeSort (dataLe false (·.2))).map (·.1))))
theorem vals_each : ∀ {bs : List VD} {us : List Value}, Vals (bs.map (·.1)) us → EachIs (fun u b => RelV b.1 u ∧ b ∈ bs) us bs
  | [], _, h => by
    have h' : Vals [] _ := h
    cases h'
    exact .nil
  | b :: bs, _, h => by
    have h' : Vals (b.1 :: bs.map (·.1)) _ := h
    cases h' with
    | cons h1 h2 => exact .cons ⟨h1, List.mem_cons_self⟩ ((vals_each h2).mono fun _ _ z => ⟨z.1, List.mem_cons_of_mem _ z.2⟩)
theorem each_vals : ∀ {bs : List VD} {us : List Value}, EachIs (fun u b => RelV b.1 u) us bs → Vals (bs.map (·.1)) us
  | _, _, .nil => .nil
  | _, _, .cons h t => .cons h (each_vals t)
theorem cr_sortD {X : Cx} (hu : X.A.units + 65 < cLine) : CallR X (.builtin "sorted") (rSortD X.K) := by
  intro pins s σ H vs us Q I r h
  obtain ⟨a, bs, rfl, hs, hd, hal, hk, hdep, q⟩ := h
  obtain ⟨its, rv, hl, hz⟩ := I.list hs
  obtain ⟨u, rfl, ru⟩ := vals1 r
  obtain rfl : u = Value.ref a := ru
  have e0 := vals_each rv
  have e : EachIs (fun u b => RelV b.1 u) its bs := e0.mono fun _ _ z => z.1
  have er : EachIs (fun v (b : VD) => ∃ as, Reads s.heap v b.2 as) its bs := e0.mono fun v b z => Dp.reads I b.2 b.1 v (hd b z.2) z.1
  have hlen := e.length
  rw [List.length_map] at hz
  refine sorted_data (enc := fun b : VD => b.2) hl.isList e er hal hk (by omega) (fun b hb => by have := hdep b hb; omega) fun out ho eo => ?_
  obtain ⟨n, hn⟩ := sortedAll_at s.heap its out.toArray
  refine ⟨.ref (s.heap.objs.size + 1), upd H (s.heap.objs.size + 1) (.lst ((bs.mergeSort (dataLe false (·.2))).map (·.1))), I.laid (t' := s.toks) (fun _ _ => sortedAll_old) (Nat.le_succ _) ⟨?_, out, n, each_vals eo, hn⟩, rfl, q _ (I.hok.fresh (Nat.le_succ _))⟩
  rw [List.length_map, List.length_mergeSort]
  omega
def rMaxDT (K : PySem.W.Frag) : List V → List V → Hp → VK → Prop := fun vs zs H Q => ∃ (a : Addr) (ns : List Int) (d : Int), vs = [V.ref a] ∧ zs = [V.int d] ∧ SqT K H a (ns.map V.int) ∧ ∀ m, (ns = [] → m = d) → (ns ≠ [] → m ∈ ns ∧ ∀ y ∈ ns, y ≤ m) → Q (.int m) H
theorem foldl_max_mem : ∀ (ns : List Int) (n : Int), ns.foldl max n ∈ n :: ns ∧ ∀ y ∈ n :: ns, y ≤ ns.foldl max n
  | [], n => ⟨List.mem_cons_self, fun y hy => by rw [List.mem_singleton.mp hy]; exact Int.le_refl _⟩
  | m :: ns, n => by
    obtain ⟨h1, h2⟩ := foldl_max_mem ns (max n m)
    refine ⟨?_, fun y hy => ?_⟩
    · rcases List.mem_cons.mp h1 with e | e
      · show ns.foldl max (max n m) ∈ _
        rw [e]
        rcases Int.le_total n m with z | z
        · rw [Int.max_eq_right z]; exact List.mem_cons_of_mem _ List.mem_cons_self
        · rw [Int.max_eq_left z]; exact List.mem_cons_self
      · exact List.mem_cons_of_mem _ (List.mem_cons_of_mem _ e)
    · have h3 := h2 _ List.mem_cons_self
      show y ≤ ns.foldl max (max n m)
      rcases List.mem_cons.mp hy with e | e
      · rw [e]; omega
      · rcases List.mem_cons.mp e with e | e
        · rw [e]; omega
        · exact h2 y (List.mem_cons_of_mem _ e)
theorem cr_maxDT {X : Cx} (hc : X.calm = true) (hu : X.A.units + 65 < cLine) : CallRK X (.builtin "max") [Str.ofString "default"] (rMaxDT X.K) := by
  intro pins s σ H vs zs us ws Q I r rz h
  obtain ⟨a, ns, d, rfl, rfl, hs, q⟩ := h
  obtain ⟨its, rv, hl, hzz⟩ := I.tuple hs
  rw [Vals.ref1 r]
  obtain ⟨u, rfl, ru⟩ := vals1 rz
  obtain ⟨t, rfl⟩ := ru
  have hr : ∃ as, ReadsAll s.heap its (ns.map PyData.int) as := by
    refine Dp.readsAll I (ns.map .int) _ its ?_ rv
    clear q hs rv hzz
    induction ns with
    | nil => exact .nil
    | cons n ns ih => exact .cons (.int n) ih
  obtain ⟨as, hr⟩ := hr
  have ha : PySem.W.AlikeAll (ns.map PyData.int) := ⟨fun d hd d' hd' => by
    obtain ⟨b, _, rfl⟩ := List.mem_map.mp hd
    obtain ⟨b', _, rfl⟩ := List.mem_map.mp hd'
    simp [alike], fun d hd => by
    obtain ⟨b, _, rfl⟩ := List.mem_map.mp hd
    exact nofun⟩
  refine PySem.W.max_tuple_default (xs := ns.map PyData.int) (I.ok.hd hc) hl hr ha (by rw [PySem.W.depth_ints]; omega) (fun h0 h' tk hk => ?_) fun y ys i v h' tk bs ex hv hr' hk => ?_
  · refine ⟨.int d, H, I.kept hk, ⟨_, rfl⟩, q d (fun _ => rfl) fun hne => ?_⟩
    cases ns with
    | nil => exact absurd rfl hne
    | cons => exact absurd h0 (by simp)
  · cases ns with
    | nil => exact absurd ex (by simp)
    | cons n ns =>
      obtain ⟨e1, e2⟩ := List.cons.inj ex
      subst e1 e2
      rw [PySem.W.maxD_ints] at hr'
      obtain ⟨h1, h2⟩ := foldl_max_mem ns n
      cases hr' with
      | int _ t' => exact ⟨.int _, H, I.kept hk, ⟨_, rfl⟩, q _ (fun z => absurd z (by simp)) fun _ => ⟨h1, h2⟩⟩
/-! ### typed -/
class Alk {α : Type} (r : Rp α) (enc : outParam (α → PyData)) : Prop where
  al : ∀ x y, alike (enc x) (enc y) = true
  nn : ∀ x, enc x ≠ .none
class AlkF {α : Type} (f : RpF α) (enc : outParam (α → List PyData)) : Prop where
  al : ∀ x y, alikeAll (enc x) (enc y) = true
section
variable {α β γ : Type}
theorem al_map {r : Rp α} {enc : α → PyData} (hr : Alk r enc) : ∀ xs ys : List α, alikeAll (xs.map enc) (ys.map enc) = true
  | [], _ => by simp [alikeAll]
  | _ :: _, [] => by simp [alikeAll]
  | x :: xs, y :: ys => by
    rw [List.map_cons, List.map_cons, alikeAll, hr.al x y, al_map hr xs ys]
    rfl
instance alkInt : Alk rInt PyData.int := ⟨fun _ _ => by simp [alike], fun _ h => nomatch h⟩
instance alkStr : Alk rStr PyData.str := ⟨fun _ _ => by simp [alike], fun _ h => nomatch h⟩
instance alkTpv {r : Rp α} {enc : α → PyData} [hr : Alk r enc] : Alk (rTpv r) (fun xs => PyData.tuple (xs.map enc)) := ⟨fun x y => by simp only [alike]; exact al_map hr x y, fun _ h => nomatch h⟩
instance alkLst {r : Rp α} {enc : α → PyData} [hr : Alk r enc] : Alk (rLst r) (fun xs => PyData.list (xs.map enc)) := ⟨fun x y => by simp only [alike]; exact al_map hr x y, fun _ h => nomatch h⟩
instance alkOne {r : Rp α} {enc : α → PyData} [hr : Alk r enc] : AlkF (fOne r) (fun x => [enc x]) := ⟨fun x y => by rw [alikeAll, hr.al x y]; simp [alikeAll]⟩
instance alkCons {r : Rp α} {enc : α → PyData} {f : RpF β} {enc' : β → List PyData} [hr : Alk r enc] [hf : AlkF f enc'] : AlkF (fCons r f) (fun x => enc x.1 :: enc' x.2) := ⟨fun x y => by rw [alikeAll, hr.al x.1 y.1, hf.al x.2 y.2]; rfl⟩
instance alkTup {f : RpF β} {enc : β → List PyData} [hf : AlkF f enc] : Alk (rTup f) (fun x => PyData.tuple (enc x)) := ⟨fun x y => by simp only [alike]; exact hf.al x y, fun _ h => nomatch h⟩
variable {ι : Type} {F : ι → Cx} {K : Fg} {B : Bs} {Γ : Gm} {O : List Own} {ra : Rp α} {rb : Rp β} {e e2 : Expr} {es : List Expr} {pos p kp : Pos} {n : Str}
variable {P : Program} {w : World} {mg : Str → Option Value} {base : Heap} {k : Nat}
theorem o_ltD [fam : Fam F P w K mg base k] {enc : α → PyData} {n : Nat} {good : α → Prop} [hr : Dat ra enc n good] [ha : Alk ra enc] {x y : α} {Ψ : Bool → List Own → Prop} (kk : Ψ (dataLt (enc x) (enc y)) O) (hn : n ≤ 60 := by decide) : OW F K B Γ O (compareOp .Lt) ra ra x y rBool Ψ := fun σ G H v w W rv rw Q q =>
  ⟨rLtD K, fun j => by rw [← fam.ka j]; exact op_ltD (by have := (fam.rm j).un; omega), enc x, enc y, hr.dp W.sub rv, hr.dp W.sub rw, ha.al x y, ha.nn x, Nat.le_trans (hr.dep x) hn, q _ O _ G H kk W (Ex.refl _) rfl⟩
theorem each_back {r : Rp β} {enc : β → PyData} {K : Fg} {G : Hp} : ∀ {bs : List VD} {xs : List β}, EachIs (fun (b : VD) x => b.2 = enc x ∧ r.rep K G b.1 x) bs xs → All2 (r.rep K G) (bs.map (·.1)) xs
  | _, _, .nil => trivial
  | _, _, .cons h t => ⟨h.2, each_back t⟩
theorem each_make {r : Rp β} {enc : β → PyData} {K : Fg} {G : Hp} : ∀ {ws : List V} {xs : List β}, All2 (r.rep K G) ws xs → EachIs (fun (b : VD) x => b.2 = enc x ∧ r.rep K G b.1 x) (ws.zip (xs.map enc)) xs ∧ (ws.zip (xs.map enc)).map (·.1) = ws ∧ (ws.zip (xs.map enc)).map (·.2) = xs.map enc
  | [], [], _ => ⟨.nil, rfl, rfl⟩
  | w :: ws, x :: xs, h => by
    obtain ⟨h1, h2, h3⟩ := each_make (ws := ws) (xs := xs) h.2
    refine ⟨.cons ⟨rfl, h.1⟩ h1, ?_, ?_⟩
    · rw [List.map_cons, List.zip_cons_cons, List.map_cons, h2]
    · rw [List.map_cons, List.zip_cons_cons, List.map_cons, h3]
  | [], _ :: _, z => z.elim
  | _ :: _, [], z => z.elim
/-- sorted(xs) of data: a new list -/
theorem c_sortX [fam : Fam F P w K mg base k] {xs : List β} {x : α} [hl : LsR O ra x rb xs] {enc : β → PyData} {n : Nat} {good : β → Prop} [hr : Dat rb enc n good] [ha : Alk rb enc] {Φ : List β → List Own → Prop} (kk : Φ (xs.mergeSort (dataLe false enc)) O)
    (hs : (∀ x, ∃ y r, enc x = .tuple (y :: r)) ∨ (∀ x, enc x ≠ .none ∧ ∀ xs, enc x ≠ .tuple xs) := by first | exact .inl fun _ => ⟨_, _, rfl⟩ | exact .inr fun _ => ⟨nofun, nofun⟩) (hn : n ≤ 60 := by decide) : CW F K B Γ O (.builtin "sorted") (fOne ra) x (rLst rb) Φ := fun σ G H vs W ⟨v, e, rv⟩ Q q => by
  obtain ⟨c, ws, h1, h2, h3⟩ := hl.get W rv
  obtain ⟨m1, m2, m3⟩ := each_make (enc := enc) h3
  have hx : ∀ b ∈ ws.zip (xs.map enc), ∃ x, b.2 = enc x ∧ rb.rep K G b.1 x := fun b hb => by
    obtain ⟨x, _, h⟩ := m1.left b hb
    exact ⟨x, h⟩
  refine ⟨rSortD K, fun j => by rw [← fam.ka j]; exact cr_sortD (by have := (fam.rm j).un; omega), c, ws.zip (xs.map enc), by rw [e, h1], by rw [m2]; exact h2, fun b hb => ?_, ?_, ?_, fun b hb => ?_, fun p hn => ?_⟩
  · obtain ⟨x, e1, e2⟩ := hx b hb
    rw [e1]
    exact hr.dp W.sub e2
  · rw [m3]
    exact AllAlike.of ha.al
  · rw [m3]
    exact hs.elim (fun z => Sortable.tuples z) fun z => Sortable.others z
  · obtain ⟨x, e1, e2⟩ := hx b hb
    rw [e1]
    exact Nat.le_trans (hr.dep x) ‹n ≤ 60›
  · have m4 := PySem.W.sort_each (r := dataLe false (fun b : VD => b.2)) (s := dataLe false enc) m1 fun p hp q hq => by
      have a1 := (m1.zip p hp).1
      have a2 := (m1.zip q hq).1
      show (!dataLt q.1.2 p.1.2) = !dataLt (enc q.2) (enc p.2)
      rw [a1, a2]
    have s : Stp B.T [] G H (upd G p (.lst (((ws.zip (xs.map enc)).mergeSort (dataLe false (·.2))).map (·.1)))) (upd H p (.lst (((ws.zip (xs.map enc)).mergeSort (dataLe false (·.2))).map (·.1)))) := Stp.new W.sub hn
    exact q _ O _ _ _ kk (W.step s) s.g ⟨p, _, rfl, upd_same, (each_back m4).mono fun _ _ z => rb.mono s.g z⟩
/-- max(t, default=d), t a tuple of ints -/
theorem d_maxDT [fam : Fam F P w K mg base k] {Φ : Int → List Own → Prop} (hm : mg "max" = none)
    (h : DW F K B Γ O e (rTpv rInt) fun xs O1 => DW F K B Γ O1 e2 rInt fun d O2 => ∀ m, (xs = [] → m = d) → (xs ≠ [] → m ∈ xs ∧ ∀ y ∈ xs, y ≤ m) → Φ m O2)
    (hg : ∀ i, Gl (F i) "max" := by intro _; rfl) (hs : ∀ i, starEach [e] (F i).env = (false, eval e (F i).env) :: starEach [] (F i).env := by intro _; rfl) (hc : ∀ j, (F j).calm = true := by intro _; rfl)
    (he : ∀ i, backTo pos (starEach [e] (F i).env) = (false, eval e (F i).env) :: backTo pos (starEach [] (F i).env) := by intro _; rfl) (hpl : ∀ i, (backTo pos (starEach [e] (F i).env)).any (·.1) = false := by intro _; rfl)
    (hall : ∀ i, (backToKw pos (keywordEach [⟨some "default", e2, kp⟩] (F i).env)).all (·.1.isSome) = true := by intro _; rfl) (hnone : ∀ i, (backToKw pos (keywordEach [⟨some "default", e2, kp⟩] (F i).env)).any (·.1.isNone) = false := by intro _; rfl)
    (hks : ∀ i, (backToKw pos (keywordEach [⟨some "default", e2, kp⟩] (F i).env)).filterMap (·.1) = [Str.ofString "default"] := by intro _; rfl) :
    DW F K B Γ O (.Call (.Name "max" p) [e] [⟨some "default", e2, kp⟩] pos) rInt Φ := by
  intro σ G H W Q q
  refine ⟨_, fun i => pe_callBK (r := rMaxDT K) (by rw [← fam.ka i]; exact cr_maxDT (hc i) (by have := (fam.rm i).un; omega)) (hg i) (by rw [fam.mg i]; exact hm) bt_max (pa_cons (WE.pe i) pa_nil (hs i)) (pk_cons (WE.pe i) pk_nil) (by decide) (by decide) (he i) (hpl i) (hall i) (hnone i) (hks i), ?_⟩
  refine h σ G H W _ fun xs O1 v G1 H1 k1 W1 e1 r1 => ?_
  refine k1 σ G1 H1 W1 _ fun d O2 u G2 H2 k2 W2 e2 r2 => ?_
  obtain ⟨c, ws, h1, h2, h3⟩ := (rTpv rInt).mono e2 r1
  refine ⟨c, xs, d, by rw [h1], by rw [show u = V.int d from r2], ?_, fun m a1 a2 => q m O2 _ G2 H2 (k2 m a1 a2) W2 (e1.trans e2) rfl⟩
  rw [← All2.map_int h3]
  exact ex_t W2.sub h2
end
end Sk


set_option Elab.async false
set_option linter.all false
set_option maxRecDepth 100000
set_option maxHeartbeats 4100000
/-! Sk50: sum of a tuple of ints; x in t, x not in t (flat items); stars of tuples. -/
namespace Sk
open PySem PySem.Spec PyProof.Rows L2 Evl
section
variable {prog : Program} {w : World} {A : Around} {E : Value → Shared → Prop} {s : Shared} {l : Addr}
theorem sumT_w {xs : Array (Int × Tok)} {Q : Value → Shared → Prop} (hh : A.handled = none) (hT : s.heap.IsTuple l (intItems xs))
    (h : ∀ h' tk t', (∀ b o, s.heap.get? b = some o → h'.get? b = some o) → Q (.int (preSum (numAt xs) xs.size) t') { s with heap := h', toks := tk }) :
    wpAny (model prog w) A (call (.builtin "sum") [.ref l]) Q E s := by
  have hl : l < s.heap.objs.size := by
    obtain ⟨o, ho, _⟩ := hT
    exact Heap.lt_size ho
  refine call_sum_walkG (wpAny_pyIter_tuple hT ?_)
  refine ⟨_, [_, l], [_], _, _, _, numAt xs, rfl, Walks.tuple (A := A.in1) hh _ l (Nat.ne_of_lt hl) (intItems xs), ⟨⟨_, Heap.get?_push_size _ rfl, rfl, rfl⟩, hT.push _⟩, fun c hc => ?_, (fun _ _ => intItems_at), fun h' tk t' hk => ?_⟩
  · show c < (s.heap.push _).objs.size
    rw [Heap.size_push]
    rcases List.mem_cons.mp hc with e | e
    · subst e
      exact Nat.lt_succ_self _
    · rw [List.mem_singleton.mp e]
      exact Nat.lt_succ_of_lt hl
  · have := h h' tk t' fun b o e => hk b o (fun hm => by
      rw [List.mem_singleton.mp hm] at e
      exact Nat.lt_irrefl _ (Heap.lt_size e)) (Heap.get?_push_of_some _ e)
    simpa [intItems] using this
end
def rSumT (K : PySem.W.Frag) : List V → Hp → VK → Prop := fun vs H Q => ∃ (a : Addr) (ns : List Int), vs = [V.ref a] ∧ SqT K H a (ns.map V.int) ∧ Q (.int ns.sum) H
section
variable {X : Cx}
theorem cr_sumT (hc : X.calm = true) : CallR X (.builtin "sum") (rSumT X.K) := by
  intro pins s σ H vs us Q I r h
  obtain ⟨a, ns, rfl, hs, q⟩ := h
  obtain ⟨its, rv, hl, _⟩ := I.tuple hs
  rw [Vals.ref1 r]
  have hi := rv.ints
  obtain ⟨xs, e⟩ := hi.allInts.items
  have hn : numsOf (intItems xs).toList = ns := by rw [← e]; exact hi.numsOf
  rw [nums_intItems] at hn
  rw [e] at hl
  refine sumT_w (I.ok.hd hc) hl fun h' tk t' hk => ?_
  rw [preSum_eq, List.take_of_length_le (by simp), hn]
  exact ⟨.int _, H, I.kept hk, ⟨_, rfl⟩, q⟩
end
section
variable {ι : Type} {F : ι → Cx} {K : Fg} {B : Bs} {Γ : Gm} {O : List Own}
theorem c_sumT {xs : List Int} {Φ : Int → List Own → Prop} (kk : Φ xs.sum O) (hK : ∀ j, (F j).K = K := by intro _; rfl) (hc : ∀ j, (F j).calm = true := by intro _; rfl) : CW F K B Γ O (.builtin "sum") (fOne (rTpv rInt)) xs rInt Φ :=
  fun σ G H vs W ⟨v, e, c, ws, h1, h2, h3⟩ Q q => ⟨rSumT K, fun j => by rw [← hK j]; exact cr_sumT (hc j), c, xs, by rw [e, h1], by rw [← All2.map_int h3]; exact ex_t W.sub h2, q _ O _ G H kk W (Ex.refl _) rfl⟩
end
/-! ### x in t -/
/-- flat things: == is equality -/
class Flt {α : Type} (r : Rp α) (mk : outParam (α → V)) : Prop where
  rep : ∀ {K : Fg} {G : Hp} {v : V} {x : α}, r.rep K G v x → v = mk x
  flat : ∀ x, flatV (mk x) = true
  eqv : ∀ x y, eqV (mk x) (mk y) = true ↔ x = y
instance fltInt : Flt rInt V.int := ⟨fun h => h, fun _ => rfl, fun x y => by show (x == y) = true ↔ _; simp⟩
instance fltStr : Flt rStr V.str := ⟨fun h => h, fun _ => rfl, fun x y => by show (x == y) = true ↔ _; simp⟩
section
variable {α β γ : Type}
theorem flt_all {r : Rp α} {mk : α → V} (hf : Flt r mk) {K : Fg} {G : Hp} : ∀ {vs : List V} {xs : List α}, All2 (r.rep K G) vs xs → vs = xs.map mk
  | [], [], _ => rfl
  | _ :: _, _ :: _, ⟨a, b⟩ => by rw [List.map_cons, hf.rep a, flt_all hf b]
  | [], _ :: _, z => z.elim
  | _ :: _, [], z => z.elim
theorem flt_in {r : Rp α} {mk : α → V} (hf : Flt r mk) [DecidableEq α] (x : α) (xs : List α) : inV (mk x) (xs.map mk) = decide (x ∈ xs) := by
  unfold inV
  rw [List.any_map, Bool.eq_iff_iff, List.any_eq_true, decide_eq_true_eq]
  constructor
  · rintro ⟨y, hy, e⟩
    rw [← (hf.eqv y x).mp e]
    exact hy
  · intro h
    exact ⟨x, h, (hf.eqv x x).mpr rfl⟩
theorem flt_flat {r : Rp α} {mk : α → V} (hf : Flt r mk) (xs : List α) : (xs.map mk).all flatV = true := by
  rw [List.all_map, List.all_eq_true]
  exact fun x _ => hf.flat x
variable {ι : Type} {F : ι → Cx} {K : Fg} {B : Bs} {Γ : Gm} {O : List Own} {ra : Rp α} {rb : Rp β} {e : Expr} {es : List Expr} {pos p : Pos}
variable {P : Program} {w : World} {mg : Str → Option Value} {base : Heap} {k : Nat}
theorem o_inT {mk : α → V} [hf : Flt ra mk] [DecidableEq α] {x : α} {xs : List α} {Ψ : Bool → List Own → Prop} (kk : Ψ (decide (x ∈ xs)) O) (hK : ∀ j, (F j).K = K := by intro _; rfl) : OW F K B Γ O (compareOp .In) ra (rTpv ra) x xs rBool Ψ := fun σ G H v w W rv ⟨c, ws, h1, h2, h3⟩ Q q => by
  have e := flt_all hf h3
  subst e
  exact ⟨rIn K false, fun j => by rw [← hK j]; exact op_in_seq, c, xs.map mk, h1, .inr (ex_t W.sub h2), by rw [hf.rep rv]; exact hf.flat x, flt_flat hf xs, q _ O _ G H kk W (Ex.refl _) (by rw [hf.rep rv]; exact congrArg V.bl (flt_in hf x xs))⟩
theorem o_notInT {mk : α → V} [hf : Flt ra mk] [DecidableEq α] {x : α} {xs : List α} {Ψ : Bool → List Own → Prop} (kk : Ψ (!decide (x ∈ xs)) O) (hK : ∀ j, (F j).K = K := by intro _; rfl) : OW F K B Γ O (compareOp .NotIn) ra (rTpv ra) x xs rBool Ψ := fun σ G H v w W rv ⟨c, ws, h1, h2, h3⟩ Q q => by
  have e := flt_all hf h3
  subst e
  exact ⟨rIn K true, fun j => by rw [← hK j]; exact op_notIn_seq, c, xs.map mk, h1, .inr (ex_t W.sub h2), by rw [hf.rep rv]; exact hf.flat x, flt_flat hf xs, q _ O _ G H kk W (Ex.refl _) (by rw [hf.rep rv]; exact congrArg (fun b => V.bl (!b)) (flt_in hf x xs))⟩
theorem da_starT [fam : Fam F P w K mg base k] {Φ : List β → List Own → Prop} (h : DW F K B Γ O e (rTpv rb) fun xs O1 => DA F K B Γ O1 es (fAll rb) fun ys O2 => Φ (xs ++ ys) O2)
    (hs : ∀ i, starEach (.Starred e p :: es) (F i).env = (true, eval e (F i).env) :: starEach es (F i).env := by intro _; rfl) : DA F K B Γ O (.Starred e p :: es) (fAll rb) Φ := by
  intro σ G H W Q q
  refine ⟨StX.tStar K (WE F e) (WA F es), fun i => by rw [← fam.ka i]; exact StX.pa_star (WE.pe i) (WA.pa i) (hs i), ?_⟩
  refine h σ G H W _ fun xs O1 v G1 H1 kk W1 e1 ⟨c, ws, h1, h2, h3⟩ => ?_
  refine ⟨c, ws, h1, .inl (ex_t W1.sub h2), ?_⟩
  exact kk σ G1 H1 W1 _ fun ys O2 vs G2 H2 k2 W2 e2 r2 => q _ O2 _ G2 H2 k2 W2 (e1.trans e2) ((h3.mono fun _ _ z => rb.mono e2 z).append r2)
end
end Sk


set_option Elab.async false
set_option linter.all false
set_option maxRecDepth 100000
set_option maxHeartbeats 4100000
/-! Sk51: xs.index(y) of data of any depth; t + u, empty or not; list(t). -/
namespace Sk
open PySem PySem.Spec PyProof.Rows L2 Evl
section
variable {ι : Type} {F : ι → Cx} {K : Fg} {B : Bs} {Γ : Gm} {O : List Own} {α β γ : Type} {rc : Rp γ} {o e : Expr} {pos apos p : Pos}
variable {P : Program} {w : World} {mg : Str → Option Value} {base : Heap} {k : Nat}
theorem idx_before [DecidableEq γ] {xs : List γ} {y z : γ} {m : Nat} (h : m < xs.idxOf y) (hz : xs[m]? = some z) : z ≠ y := by
  induction xs generalizing m with
  | nil => simp at hz
  | cons x xs ih =>
    rw [List.idxOf_cons] at h
    by_cases e : x = y
    · subst e
      simp at h
    · have e' : (x == y) = false := by simpa using e
      rw [e'] at h
      simp only [cond_false] at h
      cases m with
      | zero =>
        have : x = z := by simpa using hz
        rw [← this]
        exact e
      | succ m =>
        have hz' : xs[m]? = some z := by simpa using hz
        exact ih (by omega) hz'
theorem d_index [fam : Fam F P w K mg base k] {enc : γ → PyData} {n : Nat} {good : γ → Prop} [hr : Dat rc enc n good] [DecidableEq γ] {Φ : Int → List Own → Prop}
    (h : DW F K B Γ O o (rLst rc) fun xs O1 => DW F K B Γ O1 e rc fun y O2 => y ∈ xs ∧ (∀ z ∈ xs, good z) ∧ good y ∧ Φ ((xs.idxOf y : Nat) : Int) O2) (hn : n + 1 ≤ 64 := by decide)
    (hbase : ∀ j, attributeBase o "index" (F j).env (eval o (F j).env) = eval o (F j).env := by intro _; rfl)
    (hfew : ∀ j, ((backTo pos (starEach [e] (F j).env)).all (fun x => !x.1) && (backToKw pos (keywordEach [] (F j).env)).all (fun x => x.1.isSome)
      && decide ([e].length + ([] : List Keyword).length + (if ([] : List Keyword).isEmpty then 0 else 1) < 30)) = true := by intro _; rfl)
    (hline : (apos.endLine == pos.line) = true := by rfl) (hs : ∀ j, starEach [e] (F j).env = (false, eval e (F j).env) :: starEach [] (F j).env := by intro _; rfl) :
    DW F K B Γ O (.Call (.Attribute o "index" apos) [e] [] pos) rInt Φ := by
  refine d_bm (ra := rLst rc) (f := fOne rc) (r := rIndexD K) PySem.F.plainAttrs_list PySem.F.slot_list_index PySem.F.type_list_index (fun j => by rw [← fam.ka j]; exact mt_indexD (by have := (fam.rm j).un; omega)) ?_ hbase hfew hline hs (fun _ => rfl)
  refine d_mono h fun xs O1 h1 => ⟨fun σ G H v W ⟨a, vs, b1, b2, b3⟩ => ?_, da_one (d_mono h1 fun y O2 ⟨hy, hg, gy, kk⟩ => ?_) hs⟩
  · subst b1
    exact .inl ⟨rfl, vs, SqL.of (W.sub _ _ b2)⟩
  · intro σ G H v vs W ⟨a, us, b1, b2, b3⟩ ⟨u, e1, ru⟩ Q q'
    have hl := List.idxOf_lt_length_of_mem hy
    refine ⟨a, u, enc y, xs.map enc, xs.idxOf y, enc y, b1, e1, by rw [← b1, b1]; exact .lst (SqL.of (W.sub _ _ b2)) (all2_dp hr W.sub b3), hr.dp W.sub ru, shp (r := rLst rc) inferInstance hg hn, shp hr gy (by omega), ?_, (hr.eqv y y).mpr rfl, fun m z hm hz => ?_, q' _ O2 _ G H kk W (Ex.refl _) rfl⟩
    · rw [List.getElem?_map, List.getElem?_eq_getElem hl, List.getElem_idxOf]
      rfl
    · rw [List.getElem?_map] at hz
      obtain ⟨z0, h0, e0⟩ := Option.map_eq_some_iff.mp hz
      rw [← e0]
      exact Bool.eq_false_iff.mpr fun t => idx_before hm h0 ((hr.eqv z0 y).mp t)
end
section
variable {ι : Type} {F : ι → Cx} {K : Fg} {B : Bs} {Γ : Gm} {O : List Own} {α β : Type} {ra : Rp α} {rb : Rp β}
theorem o_catA {xs ys : List β} {Φ : List β → List Own → Prop} (hz : xs.length + ys.length ≤ sizeLine) (kk : Φ (xs ++ ys) O) (hK : ∀ j, (F j).K = K := by intro _; rfl) : OW F K B Γ O (binaryOp .Add) (rTpv rb) (rTpv rb) xs ys (rTpv rb) Φ := by
  intro σ G H v u W ⟨c, vs, a1, a2, a3⟩ ⟨d, us, b1, b2, b3⟩ Q q
  refine ⟨rCatA K, fun j => by rw [← hK j]; exact op_catA, c, d, vs, us, a1, b1, ex_t W.sub a2, ex_t W.sub b2, by rw [a3.length, b3.length]; exact hz, fun e => ?_, fun _ e => ?_, fun _ _ p hp => ?_⟩
  · have e2 : xs = [] := List.eq_nil_of_length_eq_zero (by rw [← a3.length, e]; rfl)
    exact q _ O _ G H kk W (Ex.refl _) ⟨d, us, rfl, b2, by rw [e2]; exact b3⟩
  · have e2 : ys = [] := List.eq_nil_of_length_eq_zero (by rw [← b3.length, e]; rfl)
    exact q _ O _ G H kk W (Ex.refl _) ⟨c, vs, rfl, a2, by rw [e2, List.append_nil]; exact a3⟩
  · have s : Stp B.T [] G H (upd G p (.tup (vs ++ us))) (upd H p (.tup (vs ++ us))) := Stp.new W.sub hp
    exact q _ O _ _ _ kk (W.step s) s.g ⟨p, _, rfl, SqT.of upd_same, (a3.append b3).mono fun _ _ z => rb.mono s.g z⟩
theorem c_listT {xs : List α} {Φ : List α → List Own → Prop} (kk : Φ xs O) (hK : ∀ j, (F j).K = K := by intro _; rfl) : CW F K B Γ O (.type "list") (fOne (rTpv ra)) xs (rLst ra) Φ :=
  fun σ G H vs W ⟨v, e, c, ws, h1, h2, h3⟩ Q q => by
    refine ⟨fun xs H Q => ∃ p ys, xs = [.ref p] ∧ (SqL K H p ys ∨ SqT K H p ys) ∧ ∀ l, H l = none → Q (.ref l) (upd H l (.lst ys)), fun j => by rw [← hK j]; exact call_list_of, c, ws, by rw [e, h1], .inr (ex_t W.sub h2), fun p hp => ?_⟩
    have s : Stp B.T [] G H (upd G p (.lst ws)) (upd H p (.lst ws)) := Stp.new W.sub hp
    exact q _ O _ _ _ kk (W.step s) s.g ⟨p, _, rfl, upd_same, h3.mono fun _ _ z => ra.mono s.g z⟩
end
end Sk


set_option Elab.async false
set_option linter.all false
set_option maxRecDepth 100000
set_option maxHeartbeats 4100000
/-! Sk52: the signs of a text walked; len of a text; a sign in a text; try: e except C: continue. -/
namespace Sk
open PySem PySem.Spec PyProof.Rows L2 Evl
/-- the signs of a text, as texts -/
def sgn (x : Str) : List Str := x.cps.toList.map fun c => (⟨#[c]⟩ : Str)
theorem sgn_len (x : Str) : (sgn x).length = x.length := by
  unfold sgn
  rw [List.length_map, Array.length_toList]
  rfl
section
variable {ι : Type} {F : ι → Cx} {K : Fg} {B : Bs} {Γ : Gm} {O : List Own} {α β γ : Type} {ra : Rp α} {e tg : Expr}
variable {P : Program} {w : World} {mg : Str → Option Value} {base : Heap} {k : Nat}
theorem Gives.signs {T : List Addr} {Gb : Hp} {x : Str} : Gives K T Gb (Its x) rStr (sgn x) where
  go := fun i G H hi e1 e2 => by
    have : i < x.cps.size := by rw [sgn_len] at hi; exact hi
    exact this
  stop := fun G H e1 e2 => by
    show x.cps.size ≤ (sgn x).length
    rw [sgn_len]
    exact Nat.le_refl _
  yld := fun i G H v H' hi e1 e2 ⟨h1, c, h2, h3⟩ => by
    subst h1
    refine ⟨⟨#[c]⟩, G, ?_, Stp.refl e2, h3⟩
    unfold sgn
    rw [List.getElem?_map, Array.getElem?_toList, h2]
    rfl
theorem w_str [fam : Fam F P w K mg base k] {Φ : List Str → List Own → Prop} (h : DW F K B Γ O e rStr fun x O1 => Φ (sgn x) O1) : DI F K B Γ O tg e rStr Φ := by
  intro σ G H W R q
  refine ⟨iStr (WE F e), fun i => pi_str (WE.pe i), ?_⟩
  exact h σ G H W _ fun x O' v G' H' kk W' e' r => ⟨x, r, q (sgn x) _ O' G' H' kk Gives.signs W' e'⟩
theorem c_lenZ {x : Str} {Φ : Int → List Own → Prop} (hz : x.length ≤ sizeLine) (kk : Φ (x.length : Int) O) : CW F K B Γ O (.builtin "len") (fOne rStr) x rInt Φ :=
  fun σ G H vs W ⟨v, e, rv⟩ Q q => ⟨_, fun _ => call_len_str, x, by rw [e, show v = V.str x from rv], hz, q _ O _ G H kk W (Ex.refl _) rfl⟩
theorem o_inSg {c : Nat} {z : Str} {Ψ : Bool → List Own → Prop} (kk : Ψ (decide (c ∈ z.cps.toList)) O) : OW F K B Γ O (compareOp .In) rStr rStr (⟨#[c]⟩ : Str) z rBool Ψ := fun σ G H v w W rv rw Q q =>
  ⟨_, fun _ => op_in_sign, c, z, rv, rw, q _ O _ G H kk W (Ex.refl _) rfl⟩
theorem o_notInSg {c : Nat} {z : Str} {Ψ : Bool → List Own → Prop} (kk : Ψ (!decide (c ∈ z.cps.toList)) O) : OW F K B Γ O (compareOp .NotIn) rStr rStr (⟨#[c]⟩ : Str) z rBool Ψ := fun σ G H v w W rv rw Q q =>
  ⟨_, fun _ => op_notIn_sign, c, z, rv, rw, q _ O _ G H kk W (Ex.refl _) rfl⟩
end
/-! ### try: e except C: continue -/
section
variable {P : Program} {w : World} {K : Fg} {mg : Str → Option Value} {base : Heap} {k : Nat} {B : Bs} {Γ : Gm} {O : List Own}
abbrev wCt (K : Fg) (c : Value) (D : Ends) : WX := wOnly K c (fun _ _ _ => fun D σ H => D.ct σ H) wNo D
theorem xt_ct {C : Addr} {fl : List (Str × V)} {D : Ends} (hm : PySem.W.exmOne K (.ref C) (.ref C) = some true) (h : ∀ σ G H, Ws K B Γ O σ G H → D.ct σ H) : XT K B Γ O C fl (wCt K (.ref C) D) :=
  fun d σ G H W _ => ⟨true, hm, fun _ _ _ => h σ G H W, fun z => Bool.noConfusion z⟩
variable {X : Cx} {e : Expr} {x : Str} {np p1 p2 p3 p4 p5 : Pos} {c : Value} {α : Type} {ra : Rp α} {D : Ends} {rest : List Stmt}
theorem s_tryCt [fam : Fam (Us X) P w K mg base k] (hs : X.stack = X.env :: X.outer) (hf : X.env.frame = some X.env.locals) (hc : Names X x c)
    (h : DW (Ft X (wCt K c { D with nx := WSs X rest D })) K B Γ O e ra fun _ O' => DS X K B Γ O' rest D) (hsw : swapsWith e none p1.line X.env = pure false := by rfl) :
    DS X K B Γ O (.Try [.Expr e p1] [.ExceptHandler (some (.Name x np)) none [.Continue p3] p4] [] [] p5 :: rest) D := by
  intro σ G H Ww
  have hK : X.K = K := fam.ka ()
  refine WSs.cons (ps_try_only (tb := fun W => tDrop (WE (Ft X W) e)) (ts := fun _ _ _ => fun D σ H => D.ct σ H) (Wout := wNo) hs hf hc (fun u s' ⟨_, _, _, _, _, _, _, _, _, _, _, _, _, _, _, _, z⟩ => z.elim)
    (fun W pn xe tk po => pss_one (ps_expr (X := X.tr pn xe) (te := WE (Ft X W) e) (WE.pe (F := Ft X W) ⟨(pn, xe), tk, po⟩) hsw)) (fun a oe cls d pn hz hff => pss_one ps_continue)) ?_
  rw [hK]
  exact h σ G H Ww _ fun y O' v G' H' kk W' _ r => kk _ G' H' W'
end
end Sk


set_option Elab.async false
set_option linter.all false
set_option maxRecDepth 100000
set_option maxHeartbeats 4100000
/-! Sk53: k not in d; x in xs, x not in xs (flat items); a op b op c op d as a test. -/
namespace Sk
open PySem PySem.Spec PyProof.Rows L2 Evl
section
variable {ι : Type} {F : ι → Cx} {K : Fg} {B : Bs} {Γ : Gm} {O : List Own} {α β γ : Type} {ra : Rp α} {rb : Rp β} {i o : Expr} {pos p : Pos}
variable {P : Program} {w : World} {mg : Str → Option Value} {base : Heap} {k : Nat}
theorem dt_notInK [fam : Fam F P w K mg base k] {Φ : Bool → List Own → Prop} (h : DW F K B Γ O i rKey fun y O1 => DW F K B Γ O1 o ra fun x O2 => ∃ (β : Type) (r : Rp β) (xs : List (Key × β)), DkR O2 ra x r xs ∧ Φ (!(valX xs y).isSome) O2)
    (hm : behindInMarks .NotIn o = false := by first | exact nomark _ | rfl) : DT F K B Γ O (.Compare i [.NotIn] [o] pos) Φ := by
  intro σ G H W Q q
  refine ⟨tTest (tDNotIn (WE F i) (WE F o)), fun j => pt_cmp (pc_dnotin (by have := (fam.rm j).units; omega) (WE.pe j) (WE.pe j)) hm, ?_⟩
  refine h σ G H W _ fun y O1 u G1 H1 h1 W1 e1 r1 => ?_
  refine h1 σ G1 H1 W1 _ fun x O2 v G2 H2 ⟨β, r, xs, hD, kk⟩ W2 e2 r2 => ?_
  obtain ⟨c, kvs, g1, g2, g3⟩ := hD.get W2 r2
  refine ⟨c, _, g1, ?_, _, congrArg (fun b => V.bl (!b)) g3.isSome, q _ O2 G2 H2 kk W2 (e1.trans e2)⟩
  rw [show u = kV y from r1]
  exact DGet.k g2
theorem o_inL {mk : α → V} [hf : Flt ra mk] [DecidableEq α] {x : α} {y : β} {xs : List α} [hl : LsR O rb y ra xs] {Ψ : Bool → List Own → Prop} (kk : Ψ (decide (x ∈ xs)) O) (hK : ∀ j, (F j).K = K := by intro _; rfl) : OW F K B Γ O (compareOp .In) ra rb x y rBool Ψ := fun σ G H v w W rv rw Q q => by
  obtain ⟨c, ws, h1, h2, h3⟩ := hl.get W rw
  have e := flt_all hf h3
  subst e
  exact ⟨rIn K false, fun j => by rw [← hK j]; exact op_in_seq, c, xs.map mk, h1, .inl h2, by rw [hf.rep rv]; exact hf.flat x, flt_flat hf xs, q _ O _ G H kk W (Ex.refl _) (by rw [hf.rep rv]; exact congrArg V.bl (flt_in hf x xs))⟩
theorem o_notInL {mk : α → V} [hf : Flt ra mk] [DecidableEq α] {x : α} {y : β} {xs : List α} [hl : LsR O rb y ra xs] {Ψ : Bool → List Own → Prop} (kk : Ψ (!decide (x ∈ xs)) O) (hK : ∀ j, (F j).K = K := by intro _; rfl) : OW F K B Γ O (compareOp .NotIn) ra rb x y rBool Ψ := fun σ G H v w W rv rw Q q => by
  obtain ⟨c, ws, h1, h2, h3⟩ := hl.get W rw
  have e := flt_all hf h3
  subst e
  exact ⟨rIn K true, fun j => by rw [← hK j]; exact op_notIn_seq, c, xs.map mk, h1, .inl h2, by rw [hf.rep rv]; exact hf.flat x, flt_flat hf xs, q _ O _ G H kk W (Ex.refl _) (by rw [hf.rep rv]; exact congrArg (fun b => V.bl (!b)) (flt_in hf x xs))⟩
end
end Sk
namespace L2
open PySem PySem.Spec PyProof.Rows
section
variable {X : Cx}
theorem pt_chain3 {a b c d : Expr} {pos : Pos} {ta tb tc td : TE} {op op' op2 : CmpOp} {r r' r2 : R2} (ho : OpR X (compareOp op) r) (ho' : OpR X (compareOp op') r') (ho2 : OpR X (compareOp op2) r2) (ha : PE X a ta) (hb : PE X b tb) (hc : PE X c tc) (hd : PE X d td)
    (hm : lastMarks [op, op', op2] [b, c, d] = false := by with_unfolding_all rfl) : PT X (.Compare a [op, op', op2] [b, c, d] pos) (tTest (tChain3 r r' r2 ta tb tc td)) := by
  refine ⟨fun pins s σ H Q I h => ?_⟩
  refine isTrue_chain (thn (ha.run pins s σ H _ I h) fun v s1 ⟨x, H1, I1, r1, q1⟩ => test_link (thn (hb.run pins s1 σ H1 _ I1 q1) fun u s2 ⟨y, H2, I2, rr, q2⟩ =>
    thn (ho pins s2 σ H2 x y v u _ I2 r1 rr q2) fun d s3 ⟨z, H3, I3, r3, k, e, q3⟩ => ?_)) hm
  subst e
  cases r3
  refine wpAny_truthy_bool ?_
  cases k with
  | false =>
    obtain ⟨k', e', q'⟩ := q3
    cases e'
    exact ite_ff ⟨H3, I3, q'⟩
  | true =>
    refine ite_tt (test_link (thn (hc.run pins s3 σ H3 _ I3 q3) fun w' s4 ⟨z', H4, I4, r4, q4⟩ => thn (ho' pins s4 σ H4 y z' u w' _ I4 rr r4 q4) fun d' s5 ⟨z2, H5, I5, r5, k2, e2, q5⟩ => ?_))
    subst e2
    cases r5
    refine wpAny_truthy_bool ?_
    cases k2 with
    | false =>
      obtain ⟨k', e', q'⟩ := q5
      cases e'
      exact ite_ff ⟨H5, I5, q'⟩
    | true =>
      refine ite_tt (test_last (thn (hd.run pins s5 σ H5 _ I5 q5) fun w2 s6 ⟨z3, H6, I6, r6, q6⟩ => thn (ho2 pins s6 σ H6 z' z3 w' w2 _ I6 r4 r6 q6) fun d3 s7 ⟨z4, H7, I7, r7, k3, e3, q7⟩ => ?_))
      subst e3
      cases r7
      exact wpAny_truthy_bool ⟨H7, I7, q7⟩
end
end L2
namespace Sk
open PySem L2 Evl
section
variable {ι : Type} {F : ι → Cx} {K : Fg} {B : Bs} {Γ : Gm} {O : List Own} {α β γ δ : Type} {ra : Rp α} {rb : Rp β} {rc : Rp γ} {rd : Rp δ} {a b c d : Expr} {pos : Pos}
theorem dt_chain3 {op op' op2 : CmpOp} {Φ : Bool → List Own → Prop} (h : DW F K B Γ O a ra fun x O1 => DW F K B Γ O1 b rb fun y O2 => OW F K B Γ O2 (compareOp op) ra rb x y rBool fun z O3 =>
      (z = true → DW F K B Γ O3 c rc fun w O4 => OW F K B Γ O4 (compareOp op') rb rc y w rBool fun z' O5 => (z' = true → DW F K B Γ O5 d rd fun u O6 => OW F K B Γ O6 (compareOp op2) rc rd w u rBool Φ) ∧ (z' = false → Φ false O5)) ∧ (z = false → Φ false O3))
    (hm : lastMarks [op, op', op2] [b, c, d] = false := by with_unfolding_all rfl) : DT F K B Γ O (.Compare a [op, op', op2] [b, c, d] pos) Φ := by
  intro σ G H W Q q
  refine ⟨_, fun i => pt_chain3 (wOp.op i) (wOp.op i) (wOp.op i) (WE.pe i) (WE.pe i) (WE.pe i) (WE.pe i) hm, ?_⟩
  refine h σ G H W _ fun x O1 v G1 H1 h1 W1 e1 r1 => ?_
  refine h1 σ G1 H1 W1 _ fun y O2 w G2 H2 h2 W2 e2 r2 => ?_
  refine h2 σ G2 H2 v w W2 (ra.mono e2 r1) r2 _ fun z O3 u G3 H3 k W3 e3 r3 => ⟨z, r3, ?_⟩
  have e13 := (e1.trans e2).trans e3
  cases z with
  | false => exact ⟨false, rfl, q false O3 G3 H3 (k.2 rfl) W3 e13⟩
  | true =>
    refine k.1 rfl σ G3 H3 W3 _ fun w' O4 v4 G4 H4 h4 W4 e4 r4 => ?_
    refine h4 σ G4 H4 w v4 W4 (rb.mono (e3.trans e4) r2) r4 _ fun z' O5 u5 G5 H5 k5 W5 e5 r5 => ⟨z', r5, ?_⟩
    have e15 := (e13.trans e4).trans e5
    cases z' with
    | false => exact ⟨false, rfl, q false O5 G5 H5 (k5.2 rfl) W5 e15⟩
    | true =>
      refine k5.1 rfl σ G5 H5 W5 _ fun u' O6 v6 G6 H6 h6 W6 e6 r6 => ?_
      exact h6 σ G6 H6 v4 v6 W6 (rc.mono (e5.trans e6) r4) r6 _ fun z O' u G' H' k W' e' r' => ⟨z, r', q z O' G' H' k W' ((e15.trans e6).trans e')⟩
theorem dt_chain3P {op op' op2 : CmpOp} {x y z : Bool} (h : DW F K B Γ O a ra fun u O1 => DW F K B Γ O1 b rb fun v O2 => OW F K B Γ O2 (compareOp op) ra rb u v rBool fun t O3 =>
      t = x ∧ O3 = O ∧ (x = true → DW F K B Γ O c rc fun w O4 => OW F K B Γ O4 (compareOp op') rb rc v w rBool fun t2 O5 => t2 = y ∧ O5 = O ∧ (y = true → DW F K B Γ O d rd fun q O6 => OW F K B Γ O6 (compareOp op2) rc rd w q rBool fun t3 O' => t3 = z ∧ O' = O)))
    (hm : lastMarks [op, op', op2] [b, c, d] = false := by with_unfolding_all rfl) : DT F K B Γ O (.Compare a [op, op', op2] [b, c, d] pos) fun t O' => t = (x && (y && z)) ∧ O' = O := by
  refine dt_chain3 (rb := rb) (rc := rc) (rd := rd) (d_mono h fun u O1 h1 => d_mono h1 fun v O2 h2 => fun σ G H vv ww W r1 r2 Q q => h2 σ G H vv ww W r1 r2 Q fun t O3 u' G' H' ⟨e1, e2, e3⟩ W' ex r => q t O3 u' G' H' ?_ W' ex r) hm
  subst e1 e2
  cases t with
  | false => exact ⟨fun z => Bool.noConfusion z, fun _ => ⟨rfl, rfl⟩⟩
  | true =>
    refine ⟨fun _ => d_mono (e3 rfl) fun w O4 h4 => fun σ G H vv ww W r1 r2 Q q => h4 σ G H vv ww W r1 r2 Q fun t2 O5 u' G' H' ⟨e4, e5, e6⟩ W' ex r => q t2 O5 u' G' H' ?_ W' ex r, fun z => Bool.noConfusion z⟩
    subst e4 e5
    cases t2 with
    | false => exact ⟨fun z => Bool.noConfusion z, fun _ => ⟨rfl, rfl⟩⟩
    | true => exact ⟨fun _ => e6 rfl, fun z => Bool.noConfusion z⟩
end
end Sk


set_option Elab.async false
set_option linter.all false
set_option maxRecDepth 100000
set_option maxHeartbeats 4100000
/-! Sk54: part of a text; str(n). -/
namespace Sk
open PySem PySem.Spec PyProof.Rows L2 Evl
section
variable {ι : Type} {F : ι → Cx} {K : Fg} {B : Bs} {Γ : Gm} {O : List Own} {α β γ : Type} {ra : Rp α} {e tg : Expr}
variable {P : Program} {w : World} {mg : Str → Option Value} {base : Heap} {k : Nat}
theorem sl_s {x : Str} {l h : Option Int} {Φ : Str → List Own → Prop} (hz : x.length ≤ sizeLine) (kk : Φ (cutS x l h) O) : SLW F K B Γ O rStr x l h rStr Φ := by
  intro σ G H v W rv Q q
  exact ⟨rSlS, fun j => sl_str, x, rv, hz, q _ O _ _ _ kk W (Ex.refl _) rfl⟩
theorem c_strI {i : Int} {Φ : Str → List Own → Prop} (hz : i.natAbs.log2 < 1920) (kk : Φ (toString i) O) : CW F K B Γ O (.type "str") (fOne rInt) i rStr Φ :=
  fun σ G H vs W ⟨v, e, rv⟩ Q q => ⟨_, fun _ => call_str_int, i, by rw [e, show v = V.int i from rv], hz, q _ O _ G H kk W (Ex.refl _) rfl⟩
theorem c_isiO {ι : Type} {F : ι → Cx} {K : Fg} {B : Bs} {Γ : Gm} {O : List Own} {β : Type} {rb : Rp β} {x : Addr × String} {xs : List β} {f : Own → List Own} [hO : OwnAt O x.1 (oLst rb) xs f] {b : Bool} {Φ : Bool → List Own → Prop} (hb : PySem.W.kitOne K (.type "list") (.type x.2) = some b) (k : Φ b O) (hK : ∀ j, (F j).K = K := by intro _; rfl) :
    CW F K B Γ O (.builtin "isinstance") (fCons rAdr (fOne rTy)) x rBool Φ :=
  fun σ G H vs W ⟨v, ws, e, rv, u, e2, ru⟩ Q q => by
    obtain ⟨ob, h1, us, h2, h3⟩ := W.ownO hO
    subst h2
    exact ⟨rIsi K, fun j => by rw [← hK j]; exact call_isi, v, .ty x.2, .type "list", .type x.2, b, by rw [e, e2, show u = V.ty x.2 from ru], .ty _, by rw [show v = V.ref x.1 from rv]; exact .base (.lst h1), hb, q b O _ G H k W (Ex.refl _) rfl⟩
end
end Sk


set_option Elab.async false
set_option linter.all false
set_option maxRecDepth 100000
set_option maxHeartbeats 4100000
/-! MP: charts, routes and paths, plainly (shared by the laws of paths). -/
namespace MP
open PySem L2 Evl Sk
abbrev Pt := Int × Int
abbrev Leg := Str × Str × Str × Int × Int
abbrev Fx := List (Key × Pt)
abbrev P3 := Int × Int × Int
/-! ### roots -/
def sqrU (n : Int) : Int := if decide (sqr n * sqr n = n) then sqr n else sqr n + 1
theorem sq_pos {x : Int} (h : x ≠ 0) : 0 < x * x := by
  rcases Int.lt_or_gt_of_ne h with z | z
  · exact Int.mul_pos_of_neg_of_neg z z
  · exact Int.mul_pos z z
theorem sq_nn (x : Int) : 0 ≤ x * x := by
  by_cases h : x = 0
  · rw [h]; decide
  · exact Int.le_of_lt (sq_pos h)
theorem sq_lt {x y : Int} (hx : 0 ≤ x) (h : x < y) : x * x < y * y := by
  have h1 := Int.mul_le_mul_of_nonneg_left (Int.le_of_lt h) hx
  have h2 := Int.mul_lt_mul_of_pos_right h (show 0 < y by omega)
  omega
theorem sq_le_inv {x y : Int} (hy : 0 ≤ y) (h : x * x ≤ y * y) : x ≤ y := by
  rcases Int.lt_or_le y x with z | z
  · have := sq_lt hy z
    omega
  · exact z
theorem up_ok {n : Int} (h : 0 ≤ n) : 0 ≤ sqrU n ∧ n ≤ sqrU n * sqrU n ∧ (sqrU n = 0 ∨ (sqrU n - 1) * (sqrU n - 1) < n) := by
  obtain ⟨h1, h2, h3⟩ := sqr_ok h
  unfold sqrU
  by_cases e : sqr n * sqr n = n
  · rw [if_pos (decide_eq_true e)]
    refine ⟨h1, by omega, ?_⟩
    rcases Int.lt_or_le 0 (sqr n) with z | z
    · refine .inr ?_
      have e2 : (sqr n - 1) * (sqr n - 1) = sqr n * sqr n - sqr n - sqr n + 1 := by
        rw [Int.sub_mul, Int.mul_sub]
        omega
      omega
    · exact .inl (by omega)
  · rw [if_neg (by simpa using e)]
    refine ⟨by omega, by omega, .inr ?_⟩
    have e2 : sqr n + 1 - 1 = sqr n := by omega
    rw [e2]
    omega
/-- the least number whose square is at least n -/
theorem up_unique {n x : Int} (hn : 0 ≤ n) (h0 : 0 ≤ x) (h1 : n ≤ x * x) (h2 : x = 0 ∨ (x - 1) * (x - 1) < n) : x = sqrU n := by
  obtain ⟨u0, u1, u2⟩ := up_ok hn
  rcases Int.lt_trichotomy x (sqrU n) with z | z | z
  · exfalso
    rcases u2 with w | w
    · omega
    · have h3 : x * x ≤ (sqrU n - 1) * (sqrU n - 1) := by
        rcases Int.lt_or_le x (sqrU n - 1) with y | y
        · exact Int.le_of_lt (sq_lt h0 y)
        · have : x = sqrU n - 1 := by omega
          rw [this]
          exact Int.le_refl _
      omega
  · exact z
  · exfalso
    rcases h2 with w | w
    · omega
    · have h3 : sqrU n * sqrU n ≤ (x - 1) * (x - 1) := by
        rcases Int.lt_or_le (sqrU n) (x - 1) with y | y
        · exact Int.le_of_lt (sq_lt u0 y)
        · have : sqrU n = x - 1 := by omega
          rw [this]
          exact Int.le_refl _
      omega
theorem up_le {n y : Int} (hn : 0 ≤ n) (hy : 0 ≤ y) (h : n ≤ y * y) : sqrU n ≤ y := by
  obtain ⟨u0, u1, u2⟩ := up_ok hn
  rcases u2 with w | w
  · omega
  · rcases Int.lt_or_le y (sqrU n) with z | z
    · have h3 : y * y ≤ (sqrU n - 1) * (sqrU n - 1) := by
        rcases Int.lt_or_le y (sqrU n - 1) with x | x
        · exact Int.le_of_lt (sq_lt hy x)
        · have : y = sqrU n - 1 := by omega
          rw [this]
          exact Int.le_refl _
      omega
    · exact z
/-! ### the search by halves: low and high behind i of 24 steps -/
structure HvOk (n : Int) (i : Nat) (d : Int × Int) : Prop where
  l0 : 0 ≤ d.1
  lh : d.1 ≤ d.2
  hi : d.2 ≤ 10000000
  up : n ≤ d.2 * d.2
  dn : d.1 = 0 ∨ (d.1 - 1) * (d.1 - 1) < n
  w : (d.2 - d.1) * 2 ^ i ≤ 10000000
theorem hv_init {n : Int} (h1 : n ≤ 10000000 * 10000000) : HvOk n 0 (0, 10000000) := ⟨by decide, by decide, by decide, h1, .inl rfl, by decide⟩
theorem hv_hi {n : Int} {i : Nat} {lo hi : Int} (h : HvOk n i (lo, hi)) (hm : n ≤ (lo + hi) / 2 * ((lo + hi) / 2)) : HvOk n (i + 1) (lo, (lo + hi) / 2) := by
  obtain ⟨h1, h2, h3, h4, h5, h6⟩ := h
  dsimp only at h1 h2 h3 h4 h5 h6
  refine ⟨h1, by dsimp only; omega, by dsimp only; omega, hm, h5, ?_⟩
  dsimp only
  rw [Int.pow_succ]
  have p : (0 : Int) < 2 ^ i := Int.pow_pos (by decide)
  have e : ((lo + hi) / 2 - lo) * (2 ^ i * 2) = (((lo + hi) / 2 - lo) * 2) * 2 ^ i := by rw [Int.mul_comm (2 ^ i) 2, Int.mul_assoc]
  rw [e]
  exact Int.le_trans (Int.mul_le_mul_of_nonneg_right (show ((lo + hi) / 2 - lo) * 2 ≤ hi - lo by omega) (Int.le_of_lt p)) h6
theorem hv_lo {n : Int} {i : Nat} {lo hi : Int} (hn : 0 ≤ n) (h : HvOk n i (lo, hi)) (hm : ¬ n ≤ (lo + hi) / 2 * ((lo + hi) / 2)) : HvOk n (i + 1) ((lo + hi) / 2 + 1, hi) := by
  obtain ⟨h1, h2, h3, h4, h5, h6⟩ := h
  dsimp only at h1 h2 h3 h4 h5 h6
  have hlt : (lo + hi) / 2 < hi := by
    rcases Int.lt_or_le ((lo + hi) / 2) hi with z | z
    · exact z
    · exfalso
      have e : (lo + hi) / 2 = hi := by omega
      rw [e] at hm
      exact hm h4
  refine ⟨by dsimp only; omega, by dsimp only; omega, h3, h4, .inr ?_, ?_⟩
  · dsimp only
    rw [show (lo + hi) / 2 + 1 - 1 = (lo + hi) / 2 by omega]
    omega
  · dsimp only
    rw [Int.pow_succ]
    have p : (0 : Int) < 2 ^ i := Int.pow_pos (by decide)
    have e : (hi - ((lo + hi) / 2 + 1)) * (2 ^ i * 2) = ((hi - ((lo + hi) / 2 + 1)) * 2) * 2 ^ i := by rw [Int.mul_comm (2 ^ i) 2, Int.mul_assoc]
    rw [e]
    exact Int.le_trans (Int.mul_le_mul_of_nonneg_right (show (hi - ((lo + hi) / 2 + 1)) * 2 ≤ hi - lo by omega) (Int.le_of_lt p)) h6
theorem hv_end {n : Int} (hn : 0 ≤ n) {d : Int × Int} (h : HvOk n 24 d) : d.2 = sqrU n := by
  obtain ⟨lo, hi⟩ := d
  obtain ⟨h1, h2, h3, h4, h5, h6⟩ := h
  dsimp only at h1 h2 h3 h4 h5 h6
  have e : hi = lo := by
    have e24 : (2 : Int) ^ 24 = 16777216 := by decide
    rw [e24] at h6
    omega
  subst e
  exact up_unique hn h1 h4 h5
/-! ### points, lengths, begins -/
def pt (fx : Fx) (n : Str) : Pt := (valX fx (Sum.inr n)).getD (0, 0)
def d2 (a b : Pt) : Int := (b.1 - a.1) * (b.1 - a.1) + (b.2 - a.2) * (b.2 - a.2)
theorem d2_nn (a b : Pt) : 0 ≤ d2 a b := by
  have h1 := sq_nn (b.1 - a.1)
  have h2 := sq_nn (b.2 - a.2)
  unfold d2
  omega
def ln (fx : Fx) (s e : Str) : Int := sqrU (d2 (pt fx s) (pt fx e))
theorem ln_nn (fx : Fx) (s e : Str) : 0 ≤ ln fx s e := (up_ok (d2_nn _ _)).1
def lgb (legs : List Leg) (s e : Str) : Option Leg := legs.find? fun l => decide (l.1 = s) && decide (l.2.1 = e)
def at_ (r : List Str) (k : Nat) : Str := r.getD k Str.empty
def bg (fx : Fx) (r : List Str) : Nat → Int
  | 0 => 0
  | k + 1 => bg fx r k + ln fx (at_ r k) (at_ r (k + 1))
theorem bg_mono (fx : Fx) (r : List Str) {i j : Nat} (h : i ≤ j) : bg fx r i ≤ bg fx r j := by
  induction j with
  | zero =>
    have : i = 0 := by omega
    subst this
    exact Int.le_refl _
  | succ j ih =>
    by_cases e : i = j + 1
    · subst e
      exact Int.le_refl _
    · have := ih (by omega)
      have := ln_nn fx (at_ r j) (at_ r (j + 1))
      show bg fx r i ≤ bg fx r j + ln fx (at_ r j) (at_ r (j + 1))
      omega
theorem bg_nn (fx : Fx) (r : List Str) (i : Nat) : 0 ≤ bg fx r i := bg_mono fx r (Nat.zero_le i)
def begins (fx : Fx) (r : List Str) : List Int := (List.range r.length).map (bg fx r)
def dfl : Leg := (Str.empty, Str.empty, Str.empty, 0, 0)
def lgAt (legs : List Leg) (r : List Str) (k : Nat) : Leg := (lgb legs (at_ r k) (at_ r (k + 1))).getD dfl
def lgs (legs : List Leg) (r : List Str) : List Leg := (List.range (r.length - 1)).map (lgAt legs r)
/-- points are near -/
structure PtOk (p : Pt) : Prop where
  x0 : -1000000 ≤ p.1
  x1 : p.1 ≤ 1000000
  y0 : -1000000 ≤ p.2
  y1 : p.2 ≤ 1000000
theorem d2_le {a b : Pt} (ha : PtOk a) (hb : PtOk b) : d2 a b ≤ 10000000 * 10000000 := by
  obtain ⟨a1, a2, a3, a4⟩ := ha
  obtain ⟨b1, b2, b3, b4⟩ := hb
  have sq : ∀ x : Int, -2000000 ≤ x → x ≤ 2000000 → x * x ≤ 2000000 * 2000000 := fun x h1 h2 => by
    rcases Int.le_total 0 x with z | z
    · exact Int.mul_le_mul h2 h2 z (by decide)
    · have := Int.mul_le_mul (show -x ≤ 2000000 by omega) (show -x ≤ 2000000 by omega) (by omega) (by decide)
      rw [Int.neg_mul_neg] at this
      exact this
  have h1 := sq (b.1 - a.1) (by omega) (by omega)
  have h2 := sq (b.2 - a.2) (by omega) (by omega)
  unfold d2
  omega
theorem ln_le {fx : Fx} {s e : Str} (h1 : PtOk (pt fx s)) (h2 : PtOk (pt fx e)) : ln fx s e ≤ 10000000 := up_le (d2_nn _ _) (by decide) (d2_le h1 h2)
theorem bg_le {fx : Fx} {r : List Str} (h : ∀ n ∈ r, PtOk (pt fx n)) : ∀ {k : Nat}, k < r.length → bg fx r k ≤ (k : Int) * 10000000
  | 0, _ => by show (0 : Int) ≤ _; omega
  | k + 1, hk => by
    have h1 := bg_le h (k := k) (by omega)
    have m : ∀ j, j < r.length → at_ r j ∈ r := fun j hj => by
      unfold at_
      rw [List.getD_eq_getElem?_getD, List.getElem?_eq_getElem hj]
      exact List.getElem_mem hj
    have h2 := ln_le (h _ (m k (by omega))) (h _ (m (k + 1) hk))
    show bg fx r k + ln fx (at_ r k) (at_ r (k + 1)) ≤ _
    omega
/-! ### the leg of a progress -/
/-- the least index k with k + 1 = m or p < begin (k + 1) -/
structure LaOk (b : Nat → Int) (m : Nat) (p : Int) (k : Nat) : Prop where
  lt : k < m
  le : ∀ j, 1 ≤ j → j ≤ k → b j ≤ p
  en : k + 1 = m ∨ p < b (k + 1)
theorem la_unique {b : Nat → Int} (hb : ∀ i j, i ≤ j → b i ≤ b j) {m : Nat} {p : Int} {k l : Nat} (h1 : LaOk b m p k) (h2 : LaOk b m p l) : k = l := by
  rcases Nat.lt_trichotomy k l with z | z | z
  · exfalso
    rcases h1.en with e | e
    · have := h2.lt
      omega
    · have := h2.le (k + 1) (by omega) (by omega)
      omega
  · exact z
  · exfalso
    rcases h2.en with e | e
    · have := h1.lt
      omega
    · have := h1.le (l + 1) (by omega) (by omega)
      omega
end MP


set_option Elab.async false
set_option linter.all false
set_option maxRecDepth 100000
set_option maxHeartbeats 4100000
namespace Law
open PySem L2 Evl Sk
def top (i : Nat) : Stmt := PySem.Challenge.pw_skyapart_k22_requests_and_menus.main.body.getD i (.Pass ⟨0, 0, 0, 0⟩)
abbrev s_root_up : Stmt := top 6
abbrev s_is_name : Stmt := top 12
abbrev s_leg_length : Stmt := top 13
abbrev s_open_legs : Stmt := top 14
abbrev s_is_kind : Stmt := top 19
abbrev s_route_length : Stmt := top 23
abbrev s_alternatives : Stmt := top 24
abbrev s_with_loops : Stmt := top 25
abbrev s_check_requests : Stmt := top 32
abbrev s_flaw_of : Stmt := top 33
abbrev s_possible_routes : Stmt := top 34
abbrev s_different : Stmt := top 35
abbrev s_menu : Stmt := top 36
abbrev s_start : Stmt := top 38
abbrev s_draw : Stmt := top 39
abbrev s_pick : Stmt := top 40
abbrev s_law_root_up : Stmt := top 43
abbrev s_names : Stmt := top 44
abbrev s_legs : Stmt := top 45
abbrev s_chart : Stmt := top 46
abbrev s_lengths : Stmt := top 48
abbrev s_law_route_length : Stmt := top 49
abbrev s_kind : Stmt := top 50
abbrev s_small_chart : Stmt := top 57
abbrev s_request : Stmt := top 58
abbrev s_law_is_name : Stmt := top 59
abbrev s_code : Stmt := top 60
abbrev s_flaw : Stmt := top 61
abbrev s_checked : Stmt := top 62
abbrev s_spoil : Stmt := top 63
abbrev s_routes : Stmt := top 64
abbrev s_law_menu : Stmt := top 65
abbrev s_law : Stmt := top 66
def clsB : Stmt → List Stmt
  | .ClassDef (body := b) .. => b
  | _ => []
abbrev s_RouteError_init : Stmt := (clsB (top 3)).getD 0 (.Pass ⟨0, 0, 0, 0⟩)
abbrev s_RequestError_init : Stmt := (clsB (top 4)).getD 0 (.Pass ⟨0, 0, 0, 0⟩)
abbrev pM : Module := PySem.Challenge.pw_skyapart_k22_requests_and_menus.main
abbrev cd_DELAYS : CD := .tup [.int 0, .int 8]
abbrev cd_LOOPS : CD := .tup [.int 0, .int 1]
theorem cdi_rep {K : Fg} {xs : List Int} {u : PySem.Value} (h : cdB K (.tup (xs.map CD.int)) u = true) (G : Hp) : (rTpv rInt).rep K G (cdOf u) xs := cr_tpv (f := CD.int) (fun _ _ _ h => cr_int h) xs u G h
structure Nm (K : PySem.W.Frag) (mg : Str → Option Value) where
  root_up : Df K mg "root_up" s_root_up ["n"]
  is_name : Df K mg "is_name" s_is_name ["thing"]
  leg_length : Df K mg "leg_length" s_leg_length ["chart", "start", "end"]
  open_legs : Df K mg "open_legs" s_open_legs ["chart", "start", "level"]
  is_kind : Df K mg "is_kind" s_is_kind ["kind"]
  route_length : Df K mg "route_length" s_route_length ["chart", "route"]
  alternatives : Df K mg "alternatives" s_alternatives ["chart", "start", "goal", "level", "count"]
  with_loops : Df K mg "with_loops" s_with_loops ["chart", "route", "loops"]
  check_requests : Df K mg "check_requests" s_check_requests ["chart", "requests"]
  flaw_of : Df K mg "flaw_of" s_flaw_of ["chart", "request", "names"]
  possible_routes : Df K mg "possible_routes" s_possible_routes ["chart", "request"]
  different : Df K mg "different" s_different ["first", "second"]
  menu : Df K mg "menu" s_menu ["chart", "request"]
  start : Df K mg "_law_start" s_start ["_law_script"]
  draw : Df K mg "_law_draw" s_draw ["_law_state", "_law_bound"]
  pick : Df K mg "_law_pick" s_pick ["_law_state", "_law_things"]
  law_root_up : Df K mg "_law_root_up" s_law_root_up ["_law_n"]
  names : Df K mg "_law_names" s_names ["_law_state", "_law_many"]
  legs : Df K mg "_law_legs" s_legs ["_law_state", "_law_names_here"]
  chart : Df K mg "_law_chart" s_chart ["_law_state", "_law_many", "_law_size"]
  lengths : Df K mg "_law_lengths" s_lengths ["_law_chart_here"]
  law_route_length : Df K mg "_law_route_length" s_law_route_length ["_law_lengths_here", "_law_route"]
  kind : Df K mg "_law_kind" s_kind ["_law_state"]
  small_chart : Df K mg "_law_small_chart" s_small_chart ["_law_state"]
  request : Df K mg "_law_request" s_request ["_law_state", "_law_chart_here", "_law_name"]
  law_is_name : Df K mg "_law_is_name" s_law_is_name ["_law_word"]
  code : Df K mg "_law_code" s_code ["_law_chart_here", "_law_request_here", "_law_before"]
  flaw : Df K mg "_law_flaw" s_flaw ["_law_chart_here", "_law_requests"]
  checked : Df K mg "_law_checked" s_checked ["_law_chart_here", "_law_requests"]
  spoil : Df K mg "_law_spoil" s_spoil ["_law_state", "_law_chart_here", "_law_requests"]
  routes : Df K mg "_law_routes" s_routes ["_law_chart_here", "_law_start_here", "_law_goal", "_law_level"]
  law_menu : Df K mg "_law_menu" s_law_menu ["_law_chart_here", "_law_request_here"]
  law : Df K mg "law" s_law ["_law_script"]
  is_nameT : Tf is_name
  route_lengthT : Tf route_length
  cRouteError : Addr
  xRouteError : Xd pM K mg "RouteError" cRouteError "RouteError.__init__" s_RouteError_init ["code", "index"]
  cRequestError : Addr
  xRequestError : Xd pM K mg "RequestError" cRequestError "RequestError.__init__" s_RequestError_init ["code", "index"]
  kDELAYS : ∃ u, mg "DELAYS" = some u ∧ L2.RelV (cdOf u) u ∧ cdB K cd_DELAYS u = true
  kLOOPS : ∃ u, mg "LOOPS" = some u ∧ L2.RelV (cdOf u) u ∧ cdB K cd_LOOPS u = true
abbrev tsOf {K : PySem.W.Frag} {mg : Str → Option Value} (N : Nm K mg) : List Addr := [N.is_nameT.P0, N.route_lengthT.P0]
/-- the tables stand in the base -/
structure Tb0 {K : PySem.W.Frag} {mg : Str → Option Value} (N : Nm K mg) (base : Heap) : Prop where
  is_name : GxR.TabB base mg N.is_nameT.c N.is_nameT.P0
  route_length : GxR.TabB base mg N.route_lengthT.c N.route_lengthT.P0
/-- what is built in, the module's constants -/
structure Bt (mg : Str → Option Value) : Prop where
  ValueError : mg "ValueError" = none
  all : mg "all" = none
  sum : mg "sum" = none
  range : mg "range" = none
  sorted : mg "sorted" = none
  enumerate : mg "enumerate" = none
  len : mg "len" = none
  tuple : mg "tuple" = none
  min : mg "min" = none
  max : mg "max" = none
  list : mg "list" = none
  int : mg "int" = none
  isi : mg "isinstance" = none
  bool : mg "bool" = none
  abs : mg "abs" = none
  super : mg "super" = none
  zip : mg "zip" = none
  any : mg "any" = none
  str : mg "str" = none
  HIGHEST : ∃ t, mg "HIGHEST" = some (.int 600 t)
  LONGEST_NAME : ∃ t, mg "LONGEST_NAME" = some (.int 5 t)
  CAPITALS : ∃ t, mg "CAPITALS" = some (.str "ABCDEFGHIJKLMNOPQRSTUVWXYZ" t)
  NAME_CHARACTERS : ∃ t, mg "NAME_CHARACTERS" = some (.str "ABCDEFGHIJKLMNOPQRSTUVWXYZ0123456789" t)
  CLASSES : ∃ t, mg "CLASSES" = some (.int 4 t)
  FASTEST : ∃ t, mg "FASTEST" = some (.int 10000 t)
  STEEPEST : ∃ t, mg "STEEPEST" = some (.int 100 t)
  MOST_NAMES : ∃ t, mg "MOST_NAMES" = some (.int 16 t)
  MOST_SIMPLE : ∃ t, mg "MOST_SIMPLE" = some (.int 8 t)
  LAST_TICK : ∃ t, mg "LAST_TICK" = some (.int 90000 t)
  LATEST : ∃ t, mg "LATEST" = some (.int 10000 t)
  DELAYS : True
  ROUTES : ∃ t, mg "ROUTES" = some (.int 2 t)
  LOOPS : True
  isqrt : mg "isqrt" = some (.builtin "math.isqrt")
/-- the state of the draws -/
def stN : List Str := ["cells", "at", "left", "mix"]
theorem stN_nd : stN.Nodup := by decide +kernel
abbrev stF : RpF (List Int × Int × Int × Int) := fCons (rLst rInt) (fCons rInt (fCons rInt (fOne rInt)))
structure StGood (d : List Int × Int × Int × Int) : Prop where
  cs : ∀ z ∈ d.1, 0 ≤ z
  at_ : 0 ≤ d.2.1
  lf : 0 ≤ d.2.2.1
  m0 : 0 ≤ d.2.2.2
  m1 : d.2.2.2 < 2147483647
abbrev oSt : Ow Unit := oEx (oRec stN stF) StGood
theorem bd31 {x : Int} (h0 : 0 ≤ x) (h1 : x < 2147483647) : Bd 31 x := Bd.of (by omega) (by omega)
local macro_rules | `(tactic| walk_at "sc") => `(tactic| first | omega | assumption | (with_reducible exact mulOk) | (with_reducible exact smOk) | (with_reducible exact ⟨by decide, smOk⟩) | decide | (simp only [List.length_cons, List.length_nil]; decide) | exact divOk (by omega))
section
variable {P : Program} {w : World} {K : PySem.W.Frag} {mg : Str → Option Value} {base : Heap}
abbrev sp_start (K : Fg) : Sp := spN K [] (fOne (rSeq rInt)) (fun ns => ns.length ≤ 63) oSt fun _ _ => True
theorem sc_start : FnScope ["_law_script", "_law_cell"] ["_law_script"] (defScope s_start) := ⟨rfl, rfl, rfl, by decide +kernel, rfl, by decide +kernel, by decide +kernel⟩
theorem ok_start (N : Nm K mg) (T : Bt mg) : FnOk P w K mg base CX0 1 N.start.f N.start.fd ["_law_script"] (sp_start K) := by
  refine fn_m N.start.F sc_start [] fun cdv A outer s G H E x Q fam hp hk => ?_
  show DS _ K ⟨[], [], G, H, []⟩ [some ⟨(rSeq rInt), x⟩, none] [] (defBody s_start) _
  refine s_ret (d_disp (ns := stN) (f := stF) stN_nd (fun i => pps_cons pe_str (WE.pe i) (pps_cons pe_str (WE.pe i) (pps_cons pe_str (WE.pe i) (pps_cons pe_str (WE.pe i) pps_nil)))) fun q hq => ?_)
  refine dd_cons (d_lcP [("_law_cell", 1)] [1] (fun _ => blkOk_by (N := ["_law_script", "_law_cell"]) (sc := defScope s_start) (by decide +kernel)) (w_seq (d_var 0 ⟨rfl, Nat.le_trans hp (by decide), fun gg D ys x hx => (g_name 1 (d_callB T.abs bt_abs (da_one (d_callT T.int bt_int (da_one (d_var 1 (c_int (c_abs ⟨rfl, rfl⟩)))))))), ?_⟩)))
  refine dd_cons (d_int (dd_cons (d_int (dd_one (d_bin (d_int (d_callB T.len bt_len (da_one (d_var 0 (c_lenS (o_add ⟨_, rfl, ?_⟩)))))))))))
  refine rt_close (r := oRec stN stF) (good := StGood) ⟨?_, Int.le_refl 0, Int.le_refl 0, ?_, ?_⟩ (hk ⟨(), trivial, rfl⟩)
  · intro z hz
    obtain ⟨y, _, e⟩ := List.mem_map.mp hz
    subst e
    split <;> omega
  · dsimp only
    omega
  · have hp' : x.length ≤ 63 := hp
    dsimp only
    omega
abbrev sp_draw (K : Fg) : Sp := sp1 K [] (fCons rAdr (fOne rInt)) (fun x => 0 < x.2 ∧ Sm x.2) (fun x => ⟨x.1, oSt, ()⟩) rInt fun x y => 0 ≤ y ∧ y < x.2
theorem sc_draw : FnScope ["_law_state", "_law_bound", "_law_cell", "_law_number"] ["_law_state", "_law_bound"] (defScope s_draw) := ⟨rfl, rfl, rfl, by decide +kernel, rfl, by decide +kernel, by decide +kernel⟩
theorem ok_draw (N : Nm K mg) (T : Bt mg) : FnOk P w K mg base CX0 1 N.draw.f N.draw.fd ["_law_state", "_law_bound"] (sp_draw K) := by
  refine fn_m N.draw.F sc_draw [] fun cdv A outer s G H E x Q fam hp hk => ?_
  obtain ⟨st, b⟩ := x
  obtain ⟨hb0, hbS⟩ := hp
  dsimp only at hb0 hbS
  have hbB := hbS.bd
  refine s_open (r := oRec stN stF) (good := StGood) fun d hd => ?_
  obtain ⟨cs, at', lf, mx⟩ := d
  obtain ⟨g1, g2, g3, g4, g5⟩ := hd
  dsimp only at g1 g2 g3 g4 g5
  have bm := bd31 g4 g5
  show DS _ K ⟨[], [st], G, H, []⟩ [some ⟨rAdr, st⟩, some ⟨rInt, b⟩, none, none] [⟨st, oRec stN stF, (cs, at', lf, mx)⟩] (defBody s_draw) _
  refine s_ifJ (fun d : List Int × Int × Int × Int => StGood d) (fun _ => [some ⟨rAdr, st⟩, some ⟨rInt, b⟩, none, none]) (fun d => [⟨st, oRec stN stF, d⟩]) (dt_bool (dp_andP (dt_cmp (d_recV 0 2 rfl stN_nd (d_int (o_eqI ⟨rfl, rfl⟩)))) (fun hb => (dp_and1 (dt_cmp (d_recV 0 1 rfl stN_nd (d_callB T.len bt_len (da_one (d_recV 0 0 rfl stN_nd (c_lenL (o_lt ⟨rfl, rfl⟩)))))))))))
    (fun hb => ?_) (fun hb => ?_) (fun d hd => ?_)
  · -- then
    simp only [Bool.and_eq_true, decide_eq_true_eq] at hb
    obtain ⟨c, hc1, hc2, _⟩ := atI_lt g2 hb.2
    have hc0 := g1 c hc2
    refine s_set 2 (d_ix (d_recV 0 0 rfl stN_nd (d_recV 0 1 rfl stN_nd (i_lst hc1 ?_))))
    refine s_recPutV 0 1 rfl stN_nd (d_bin (d_recV 0 1 rfl stN_nd (d_int (o_add ⟨rfl, ?_⟩))))
    refine s_recPutV 0 3 rfl stN_nd (d_bin (d_callT T.int bt_int (da_one (d_bin (d_bin (d_bin (d_recV 0 3 rfl stN_nd (d_int (o_mul (by walk_at "sc") (d_var 2 (o_add (d_int (o_add (c_int (d_int (o_mod (by walk_at "sc") ⟨rfl, ?_⟩))))))))))))))))
    obtain ⟨q0, q1⟩ := mod_rng (mx * 48271 + c + 11) (show (0 : Int) < 2147483647 by decide)
    refine s_ifP (dt_cmp (d_var 2 (d_bin (d_int (d_int (o_pow (by decide) (o_lt ⟨rfl, rfl⟩))))))) (fun hb => ?_) (fun hb => ?_)
    · refine s_ret (d_bin (d_callT T.int bt_int (da_one (d_var 2 (c_int (d_var 1 (o_mod (by walk_at "sc") ?_)))))))
      exact rt_close (r := oRec stN stF) (good := StGood) ⟨g1, by dsimp only; omega, g3, q0, q1⟩ (hk ⟨rfl, mod_rng _ hb0⟩)
    · refine s_out (s_recPutV 0 2 rfl stN_nd (d_var 2 ⟨rfl, ?_⟩))
      exact s_join (cs, at' + 1, c, (mx * 48271 + c + 11) % 2147483647) ⟨g1, by dsimp only; omega, hc0, q0, q1⟩ ⟨rfl, rfl, trivial⟩ rfl
  · exact s_join (cs, at', lf, mx) ⟨g1, g2, g3, g4, g5⟩ ⟨rfl, rfl, trivial⟩ rfl
  · obtain ⟨cs, at', lf, mx⟩ := d
    obtain ⟨g1, g2, g3, g4, g5⟩ := hd
    dsimp only at g1 g2 g3 g4 g5
    have bm := bd31 g4 g5
    refine s_ifP (dt_cmp (d_recV 0 2 rfl stN_nd (d_int (o_gt ⟨rfl, rfl⟩)))) (fun hb => ?_) (fun hb => ?_)
    · refine s_set 3 (d_bin (d_callT T.int bt_int (da_one (d_recV 0 2 rfl stN_nd (c_int (d_var 1 (o_mod (by walk_at "sc") ?_)))))))
      refine s_recPutV 0 2 rfl stN_nd (d_bin (d_recV 0 2 rfl stN_nd (d_var 1 (o_div (divOk hb0) ⟨rfl, ?_⟩))))
      refine s_ret (d_var 3 ?_)
      exact rt_close (r := oRec stN stF) (good := StGood) ⟨g1, g2, Int.ediv_nonneg g3 (by omega), g4, g5⟩ (hk ⟨rfl, mod_rng _ hb0⟩)
    · refine s_out (s_recPutV 0 3 rfl stN_nd (d_bin (d_callT T.int bt_int (da_one (d_bin (d_bin (d_recV 0 3 rfl stN_nd (d_int (o_mul (by walk_at "sc") (d_int (o_add (c_int (d_int (o_mod (by walk_at "sc") ⟨rfl, ?_⟩))))))))))))))
      obtain ⟨q0, q1⟩ := mod_rng (mx * 48271 + 11) (show (0 : Int) < 2147483647 by decide)
      have bm3 := bd31 q0 q1
      refine s_ret (d_bin (d_callT T.int bt_int (da_one (d_bin (d_callT T.int bt_int (da_one (d_bin (d_bin (d_recV 0 3 rfl stN_nd (d_int (o_mul (by walk_at "sc") (d_int (o_add (c_int (d_int (o_mod (by walk_at "sc") (c_int (d_var 1 (o_mod (by walk_at "sc") ?_)))))))))))))))))))
      exact rt_close (r := oRec stN stF) (good := StGood) ⟨g1, g2, g3, q0, q1⟩ (hk ⟨rfl, mod_rng _ hb0⟩)
abbrev sp_pick {α : Type} (ra : Rp α) (K : Fg) : Sp := sp1 K [] (fCons rAdr (fOne (rLst ra))) (fun x => 0 < x.2.length ∧ x.2.length ≤ sizeLine) (fun x => ⟨x.1, oSt, ()⟩) ra fun x y => y ∈ x.2
theorem sc_pick : FnScope ["_law_state", "_law_things"] ["_law_state", "_law_things"] (defScope s_pick) := ⟨rfl, rfl, rfl, by decide +kernel, rfl, by decide +kernel, by decide +kernel⟩
theorem ok_pick {α : Type} {ra : Rp α} (N : Nm K mg) (T : Bt mg) : FnOk P w K mg base CX0 2 N.pick.f N.pick.fd ["_law_state", "_law_things"] (sp_pick ra K) := by
  refine fn_m N.pick.F sc_pick [] fun cdv A outer s G H E x Q fam hp hk => ?_
  obtain ⟨st, xs⟩ := x
  obtain ⟨h0, h1⟩ := hp
  dsimp only at h0 h1
  have hB := bd_len h1
  show DS _ K ⟨[], [st], G, H, []⟩ [some ⟨rAdr, st⟩, some ⟨(rLst ra), xs⟩] [⟨st, oSt, ()⟩] (defBody s_pick) _
  refine s_ret (d_ix (rc := ra) (d_var 1 (d_call N.draw (ok_draw N T) (da_cons (d_var 0 (da_one (d_callB T.len bt_len (da_one (d_var 1 (c_lenL (sw_1 (q := st) ⟨?_, smOk⟩ (fun n hn => ?_))))))))))))
  · dsimp only
    omega
  · obtain ⟨c, c1, c2, _⟩ := atI_lt (xs := xs) hn.1 hn.2
    exact i_lst c1 (hk ⟨rfl, c2⟩)
theorem ini_RouteError (N : Nm K mg) (hP : P.main = pM) : FnOk P w K mg base CX0 1 N.xRouteError.f N.xRouteError.fd ["self", "code", "index"] (spXI N.cRouteError ["code", "index"]) := by
  refine xini_ok (N := ["self", "code", "index", "__class__"]) N.xRouteError.I hP (NdefX.nscope_by (by decide +kernel)) (by decide +kernel) rfl rfl rfl (fun vs H Q E ⟨a, ws, e, hl, _⟩ => by rw [e, List.length_cons, hl]; rfl) fun cc cda A outer s H vs Q E hr ⟨a, ws, e, hl, hea, hm, hq⟩ => ?_
  obtain ⟨v1, v2, rfl⟩ : ∃ v1 v2, ws = [v1, v2] := by
    match ws, hl with
    | [v1, v2], _ => exact ⟨v1, v2, rfl⟩
  subst e
  refine ⟨a, _, _, rfl, pa_cons (pe_joined (.cons (t := pTE (.inl "code ")) pe_str (.cons (t := pTE (.inr 1)) (pe_fmtR (pv 1)) (.cons (t := pTE (.inl ", index ")) pe_str (.cons (t := pTE (.inr 2)) (pe_fmtR (pv 2)) .nil))))) pa_nil, pss_cons (ps_ost (pv 0) (pv 1)) (pss_one (ps_ost (pv 0) (pv 2))), hea, ?_⟩
  refine tjs_ok [.inl "code ", .inr 1, .inl ", index ", .inr 2] _ (fun p hp => ?_) (by decide) fun out => ⟨by show 1 ≤ 1000; decide, hea, ?_⟩
  · simp only [List.mem_cons, List.not_mem_nil, or_false] at hp
    rcases hp with rfl | rfl | rfl | rfl
    · show ("code " : Str).length ≤ 1000
      decide
    · exact ⟨v1, rfl, hm _ (by simp)⟩
    · show (", index " : Str).length ≤ 1000
      decide
    · exact ⟨v2, rfl, hm _ (by simp)⟩
  exact ⟨v1, rfl, .ref a, rfl, a, N.cRouteError, rfl, N.xRouteError.I.T, (N.xRouteError.na _ (by simp)), .inl ⟨hea, fun d hd hne => ⟨v2, rfl, .ref a, rfl, a, N.cRouteError, rfl, N.xRouteError.I.T, (N.xRouteError.na _ (by simp)), .inr ⟨d, [("code", v1)], upd_same, (by rw [upd_ne hne]; exact upd_same), (by show 1 ≤ 900; decide), (by rw [ost_more hne rfl]; exact hq d hd hne)⟩⟩⟩⟩
theorem ini_RequestError (N : Nm K mg) (hP : P.main = pM) : FnOk P w K mg base CX0 1 N.xRequestError.f N.xRequestError.fd ["self", "code", "index"] (spXI N.cRequestError ["code", "index"]) := by
  refine xini_ok (N := ["self", "code", "index", "__class__"]) N.xRequestError.I hP (NdefX.nscope_by (by decide +kernel)) (by decide +kernel) rfl rfl rfl (fun vs H Q E ⟨a, ws, e, hl, _⟩ => by rw [e, List.length_cons, hl]; rfl) fun cc cda A outer s H vs Q E hr ⟨a, ws, e, hl, hea, hm, hq⟩ => ?_
  obtain ⟨v1, v2, rfl⟩ : ∃ v1 v2, ws = [v1, v2] := by
    match ws, hl with
    | [v1, v2], _ => exact ⟨v1, v2, rfl⟩
  subst e
  refine ⟨a, _, _, rfl, pa_cons (pe_joined (.cons (t := pTE (.inl "code ")) pe_str (.cons (t := pTE (.inr 1)) (pe_fmtR (pv 1)) (.cons (t := pTE (.inl ", index ")) pe_str (.cons (t := pTE (.inr 2)) (pe_fmtR (pv 2)) .nil))))) pa_nil, pss_cons (ps_ost (pv 0) (pv 1)) (pss_one (ps_ost (pv 0) (pv 2))), hea, ?_⟩
  refine tjs_ok [.inl "code ", .inr 1, .inl ", index ", .inr 2] _ (fun p hp => ?_) (by decide) fun out => ⟨by show 1 ≤ 1000; decide, hea, ?_⟩
  · simp only [List.mem_cons, List.not_mem_nil, or_false] at hp
    rcases hp with rfl | rfl | rfl | rfl
    · show ("code " : Str).length ≤ 1000
      decide
    · exact ⟨v1, rfl, hm _ (by simp)⟩
    · show (", index " : Str).length ≤ 1000
      decide
    · exact ⟨v2, rfl, hm _ (by simp)⟩
  exact ⟨v1, rfl, .ref a, rfl, a, N.cRequestError, rfl, N.xRequestError.I.T, (N.xRequestError.na _ (by simp)), .inl ⟨hea, fun d hd hne => ⟨v2, rfl, .ref a, rfl, a, N.cRequestError, rfl, N.xRequestError.I.T, (N.xRequestError.na _ (by simp)), .inr ⟨d, [("code", v1)], upd_same, (by rw [upd_ne hne]; exact upd_same), (by show 1 ≤ 900; decide), (by rw [ost_more hne rfl]; exact hq d hd hne)⟩⟩⟩⟩
end
end Law


set_option Elab.async false
set_option linter.all false
set_option maxRecDepth 100000
set_option maxHeartbeats 4100000
/-! Ct: how the law's charts and paths stand (k09). -/
namespace Law
open PySem L2 Evl Sk MP
abbrev rPt : Rp Pt := rTup (fCons rInt (fOne rInt))
abbrev rLeg : Rp Leg := rTup (fCons rStr (fCons rStr (fCons rStr (fCons rInt (fOne rInt)))))
abbrev rP3 : Rp P3 := rTup (fCons rInt (fCons rInt (fOne rInt)))
abbrev chN5 : List Str := ["fixes", "legs", "zones", "runways", "holds"]
abbrev chN : List Str := ["fixes", "legs", "zones", "runways", "holds", "hours", "capacities"]
theorem chN_nd : chN.Nodup := by decide +kernel
theorem chN5_nd : chN5.Nodup := by decide +kernel
abbrev ChV5 := Fx × List Leg × List Int × List Str × List (Key × Str)
abbrev Hr := Str × Str × Int × Int
abbrev rHour : Rp Hr := rTup (fCons rStr (fCons rStr (fCons rInt (fOne rInt))))
abbrev ChV := (ChV5 × List Hr) × List (Key × Int)
abbrev chF5 : RpF ChV5 := fCons (rDk rPt) (fCons (rLst rLeg) (fCons (rLst rInt) (fCons (rLst rStr) (fOne (rDk rStr)))))
abbrev chF : RpF ChV := fApp (fApp chF5 (rLst rHour)) (rDk rInt)
abbrev rChart : Rp ChV := rRec chN chF
abbrev fxOf (c : ChV) : Fx := c.1.1.1
abbrev lgOf (c : ChV) : List Leg := c.1.1.2.1
abbrev hrOf (c : ChV) : List Hr := c.1.2
/-- a chart of one's own: its legs, its hours too -/
abbrev ChO5 := Fx × Addr × List Int × List Str × List (Key × Str)
abbrev ChO := (ChO5 × Addr) × List (Key × Int)
abbrev chFO5 : RpF ChO5 := fCons (rDk rPt) (fCons rAdr (fCons (rLst rInt) (fCons (rLst rStr) (fOne (rDk rStr)))))
abbrev chFO : RpF ChO := fApp (fApp chFO5 rAdr) (rDk rInt)
abbrev chO (c : ChV) (ql qh : Addr) : ChO := ((((fxOf c), ql, c.1.1.2.2), qh), c.2)
/-- a route of the chart -/
structure RtV (ch : ChV) (r : List Str) : Prop where
  two : 2 ≤ r.length
  len : r.length ≤ 1000
  fx : ∀ n ∈ r, ∃ p, valX (fxOf ch) (Sum.inr n) = some p ∧ PtOk p
  lg : ∀ k, k + 1 < r.length → ∃ l, lgb (lgOf ch) (at_ r k) (at_ r (k + 1)) = some l
theorem at_get {r : List Str} {k : Nat} (h : k < r.length) : r[k]? = some (at_ r k) := by
  unfold at_
  rw [List.getD_eq_getElem?_getD, List.getElem?_eq_getElem h]
  rfl
theorem at_mem {r : List Str} {k : Nat} (h : k < r.length) : at_ r k ∈ r := List.mem_of_getElem? (at_get h)
theorem cut_from {α : Type} (xs : List α) (k : Nat) (h : k ≤ xs.length) : cutL xs (some (k : Int)) none = xs.drop k := by
  unfold cutL
  have e1 : HT.sIx xs.length 0 (some (k : Int)) = k := by
    show (if (k : Int) < 0 then ((k : Int) + (xs.length : Int)).toNat else min (k : Int).toNat xs.length) = _
    rw [if_neg (by omega)]
    omega
  rw [e1]
  show (xs.drop k).take (xs.length - k) = _
  rw [← List.length_drop, List.take_length]
theorem pairs_get {r : List Str} {i : Nat} {x : Str × Str} (h : (r.zip (r.drop 1))[i]? = some x) : i + 1 < r.length ∧ x = (at_ r i, at_ r (i + 1)) := by
  obtain ⟨h1, h2⟩ := List.getElem?_zip_eq_some.mp (show (r.zip (r.drop 1))[i]? = some (x.1, x.2) from h)
  rw [List.getElem?_drop] at h2
  have hl : 1 + i < r.length := (List.getElem?_eq_some_iff.mp h2).1
  have hi : i + 1 < r.length := by omega
  rw [at_get (by omega)] at h1
  rw [show 1 + i = i + 1 by omega, at_get hi] at h2
  exact ⟨hi, Prod.ext (Option.some.inj h1).symm (Option.some.inj h2).symm⟩
theorem range_map_get {α : Type} {f : Nat → α} {n i : Nat} (h : i < n) : ((List.range n).map f)[i]? = some (f i) := by
  rw [List.getElem?_map, List.getElem?_range h]
  rfl
theorem atI_nat' {α : Type} {l : List α} {k : Nat} {x : α} (h : l[k]? = some x) : atI l (k : Int) = some x := by
  have hl := (List.getElem?_eq_some_iff.mp h).1
  unfold atI
  rw [atI_ok (by omega) (by omega)]
  show l[((k : Int)).toNat]? = some x
  rw [Int.toNat_natCast]
  exact h
theorem atI_int {α : Type} {l : List α} {i : Int} {x : α} (h0 : 0 ≤ i) (h : l[i.toNat]? = some x) : atI l i = some x := by
  have e : ((i.toNat : Nat) : Int) = i := by omega
  rw [← e]
  exact atI_nat' h
end Law


set_option Elab.async false
set_option linter.all false
set_option maxRecDepth 100000
set_option maxHeartbeats 4100000
/-! RtA: roots, legs (shared by the laws of routes). -/
namespace Law
open PySem L2 Evl Sk MP
local macro_rules | `(tactic| walk_at "sc") => `(tactic| first | omega | assumption | (with_reducible exact mulOk) | (with_reducible exact smOk) | (with_reducible exact ⟨by decide, smOk⟩) | decide | (simp only [List.length_cons, List.length_nil]; decide) | exact divOk (by omega))
section
variable {P : Program} {w : World} {K : PySem.W.Frag} {mg : Str → Option Value} {base : Heap}
theorem sqr_bd {n : Int} (h : 0 ≤ n) [hb : Bd 210 n] : Bd 210 (sqr n) := ⟨by
  obtain ⟨h1, h2, _⟩ := sqr_ok h
  have h3 := hb.lt
  have h4 : sqr n ≤ n := by
    rcases Int.lt_or_le (sqr n) 1 with z | z
    · omega
    · have := Int.mul_le_mul_of_nonneg_left z h1
      omega
  omega⟩
abbrev sp_root_up (K : Fg) : Sp := spF K [] (fOne rInt) (fun n => 0 ≤ n ∧ Bd 210 n) rInt sqrU
theorem sc_root_up : FnScope ["n", "root"] ["n"] (defScope s_root_up) := ⟨rfl, rfl, rfl, by decide +kernel, rfl, by decide +kernel, by decide +kernel⟩
theorem ok_root_up (N : Nm K mg) (T : Bt mg) : FnOk P w K mg base CX0 1 N.root_up.f N.root_up.fd ["n"] (sp_root_up K) := by
  refine fn_m N.root_up.F sc_root_up [] fun cdv A outer s G H E x Q fam hp hk => ?_
  obtain ⟨h0, hb⟩ := hp
  have hr := sqr_bd h0
  show DS _ K ⟨[], _, G, H, []⟩ [some ⟨rInt, x⟩, none] _ (defBody s_root_up) _
  refine s_set 1 (d_callG T.isqrt (da_one (d_var 0 (c_sqrt h0 ?_))))
  refine s_ret (d_iteP (dt_cmp (d_bin (d_var 1 (d_var 1 (o_mul (by walk_at "sc") (d_var 0 (o_eqI ⟨rfl, rfl⟩))))))) (fun hb => (d_var 1 (hk ⟨rfl, ?_⟩))) (fun hb => (d_bin (d_var 1 (d_int (o_add (hk ⟨rfl, ?_⟩)))))))
  · show sqr x = sqrU x
    unfold sqrU
    rw [if_pos hb]
  · show sqr x + 1 = sqrU x
    unfold sqrU
    rw [hb]
    rfl
abbrev sp_leg_length (K : Fg) : Sp := spF K [] (fCons rChart (fCons rStr (fOne rStr))) (fun x => (∃ p, valX (fxOf x.1) (Sum.inr x.2.1) = some p ∧ PtOk p) ∧ ∃ p, valX (fxOf x.1) (Sum.inr x.2.2) = some p ∧ PtOk p) rInt fun x => ln (fxOf x.1) x.2.1 x.2.2
theorem sc_leg_length : FnScope ["chart", "start", "end", "ax", "ay", "bx", "by"] ["chart", "start", "end"] (defScope s_leg_length) := ⟨rfl, rfl, rfl, by decide +kernel, rfl, by decide +kernel, by decide +kernel⟩
theorem pt_of {fx : Fx} {n : Str} {p : Pt} (h : valX fx (Sum.inr n) = some p) : pt fx n = p := by
  unfold pt
  rw [h]
  rfl
theorem ok_leg_length (N : Nm K mg) (T : Bt mg) : FnOk P w K mg base CX0 2 N.leg_length.f N.leg_length.fd ["chart", "start", "end"] (sp_leg_length K) := by
  refine fn_m N.leg_length.F sc_leg_length [] fun cdv A outer s G H E x Q fam hp hk => ?_
  obtain ⟨ch, sn, en⟩ := x
  obtain ⟨⟨p, hp1, op⟩, ⟨q, hq1, oq⟩⟩ := hp
  dsimp only at hp1 hq1
  have hd2 := d2_le op oq
  have hd0 := d2_nn p q
  have b1 : Bd 30 (q.1 - p.1) := Bd.of (by have := op.x1; have := oq.x0; omega) (by have := op.x0; have := oq.x1; omega)
  have b2 : Bd 30 (q.2 - p.2) := Bd.of (by have := op.y1; have := oq.y0; omega) (by have := op.y0; have := oq.y1; omega)
  have b3 : Bd 210 (d2 p q) := Bd.of (by omega) (by omega)
  show DS _ K ⟨[], _, G, H, []⟩ [some ⟨rChart, ch⟩, some ⟨rStr, sn⟩, some ⟨rStr, en⟩, none, none, none, none] _ (defBody s_leg_length) _
  refine s_asg (js := [3, 4]) (ra := rPt) (d_dk (d_recP 0 0 rfl chN_nd (d_keyS (d_var 1 ⟨_, p, inferInstance, hp1, g_tup (gs_cons (g_name 3 (gs_one (g_name 4 ?_))))⟩))))
  refine s_asg (js := [5, 6]) (ra := rPt) (d_dk (d_recP 0 0 rfl chN_nd (d_keyS (d_var 2 ⟨_, q, inferInstance, hq1, g_tup (gs_cons (g_name 5 (gs_one (g_name 6 ?_))))⟩))))
  refine s_ret (d_call N.root_up (ok_root_up N T) (da_one (d_bin (d_bin (d_bin (d_var 5 (d_var 3 (o_sub (d_bin (d_var 5 (d_var 3 (o_sub (o_mul (by walk_at "sc") (d_bin (d_bin (d_var 6 (d_var 4 (o_sub (d_bin (d_var 6 (d_var 4 (o_sub (o_mul (by walk_at "sc") (o_add (sw_f ⟨hd0, b3⟩ (hk ⟨rfl, ?_⟩))))))))))))))))))))))))))
  show sqrU (d2 p q) = ln (fxOf ch) sn en
  unfold ln
  rw [pt_of hp1, pt_of hq1]
end
end Law


set_option Elab.async false
set_option linter.all false
set_option maxRecDepth 100000
set_option maxHeartbeats 4100000
/-! LwA: the law's own roots, legs, begins (shared by the laws of paths). -/
namespace Law
open PySem L2 Evl Sk MP
local macro_rules | `(tactic| walk_at "sc") => `(tactic| first | omega | assumption | (with_reducible exact mulOk) | (with_reducible exact smOk) | (with_reducible exact ⟨by decide, smOk⟩) | decide | (simp only [List.length_cons, List.length_nil]; decide) | exact divOk (by omega))
section
variable {P : Program} {w : World} {K : PySem.W.Frag} {mg : Str → Option Value} {base : Heap}
abbrev sp_law_root_up (K : Fg) : Sp := spF K [] (fOne rInt) (fun n => 0 ≤ n ∧ n ≤ 10000000 * 10000000) rInt sqrU
theorem sc_law_root_up : FnScope ["_law_n", "_law_low", "_law_high", "_law_k", "_law_middle"] ["_law_n"] (defScope s_law_root_up) := ⟨rfl, rfl, rfl, by decide +kernel, rfl, by decide +kernel, by decide +kernel⟩
theorem ok_law_root_up (N : Nm K mg) (T : Bt mg) : FnOk P w K mg base CX0 1 N.law_root_up.f N.law_root_up.fd ["_law_n"] (sp_law_root_up K) := by
  refine fn_m N.law_root_up.F sc_law_root_up [] fun cdv A outer s G H E x Q fam hp hk => ?_
  obtain ⟨hp0, hp1⟩ := hp
  show DS _ K ⟨[], _, G, H, []⟩ [some ⟨rInt, x⟩, none, none, none, none] _ (defBody s_law_root_up) _
  refine s_set 1 (d_int ?_)
  refine s_set 2 (d_bin (d_int (d_int (o_pow (by walk_at "sc") ?_))))
  refine s_for (js := [3]) (w_rng1 T.range (d_int ⟨(by walk_at "sc"), ?_⟩))
  refine ⟨Int × Int, fun i d => HvOk x i d, fun d => [some ⟨rInt, x⟩, some ⟨rInt, d.1⟩, some ⟨rInt, d.2⟩, none, none], fun _ => [], ⟨(0, 10000000), hv_init hp1, ⟨rfl, rfl, congrArg (Slot.mk rInt) (by decide), trivial⟩, rfl⟩, fun g i y d hx hd => (g_name 3 ?_), fun d hd => ?_⟩
  · obtain ⟨lo, hi⟩ := d
    have hd' := hd
    obtain ⟨l0, lh, h1, _, _, _⟩ := hd'
    dsimp only at l0 lh h1
    dsimp only
    have bm : Bd 30 ((lo + hi) / 2) := Bd.of (by omega) (by omega)
    refine s_set 4 (d_bin (d_bin (d_var 1 (d_var 2 (o_add (d_int (o_div (divOk (by decide)) ?_)))))))
    refine s_ifP (dt_cmp (d_bin (d_var 4 (d_var 4 (o_mul (by walk_at "sc") (d_var 0 (o_ge ⟨rfl, rfl⟩))))))) (fun hb => ?_) (fun hb => ?_)
    · refine s_set 2 (d_var 4 (s_out ?_))
      exact s_next (lo, (lo + hi) / 2) (hv_hi hd (of_decide_eq_true hb)) ⟨rfl, rfl, rfl, trivial⟩ rfl
    · refine s_set 1 (d_bin (d_var 4 (d_int (o_add (s_out ?_)))))
      exact s_next ((lo + hi) / 2 + 1, hi) (hv_lo hp0 hd (of_decide_eq_false hb)) ⟨rfl, rfl, rfl, trivial⟩ rfl
  · exact s_ret (d_var 2 (hk ⟨rfl, hv_end hp0 hd⟩))
end
end Law


set_option Elab.async false
set_option linter.all false
set_option maxRecDepth 100000
set_option maxHeartbeats 4100000
/-! LwB: the law's own lengths, legs, begins (shared by the laws of paths). -/
namespace MP
open PySem L2 Evl Sk
theorem valX_over {κ α : Type} [DecidableEq κ] (k j : κ) (x : α) : ∀ xs : List (κ × α), valX (xs.map fun u => if u.1 = k then (u.1, x) else u) j = (valX xs j).map fun y => if j = k then x else y
  | [] => rfl
  | u :: r => by
    rw [List.map_cons]
    by_cases h : u.1 = j
    · have e1 : valX (u :: r) j = some u.2 := by simp [valX, h]
      rw [e1]
      by_cases hk : u.1 = k
      · rw [if_pos hk]
        have e2 : valX ((u.1, x) :: r.map fun u => if u.1 = k then (u.1, x) else u) j = some x := by simp [valX, h]
        rw [e2]
        simp [h.symm.trans hk]
      · rw [if_neg hk]
        have e2 : valX (u :: r.map fun u => if u.1 = k then (u.1, x) else u) j = some u.2 := by simp [valX, h]
        rw [e2]
        have : ¬ j = k := fun z => hk (h.trans z)
        simp [this]
    · have e1 : valX (u :: r) j = valX r j := by simp [valX, h]
      rw [e1, ← valX_over k j x r]
      by_cases hk : u.1 = k
      · rw [if_pos hk]
        simp [valX, h]
      · rw [if_neg hk]
        simp [valX, h]
theorem valX_any {κ α : Type} [DecidableEq κ] (k : κ) : ∀ xs : List (κ × α), (xs.any fun u => decide (u.1 = k)) = (valX xs k).isSome
  | [] => rfl
  | u :: r => by
    rw [List.any_cons, valX_any k r]
    by_cases h : u.1 = k
    · simp [valX, h]
    · simp [valX, h]
theorem valX_app {κ α : Type} [DecidableEq κ] (k j : κ) (x : α) : ∀ xs : List (κ × α), valX xs k = none → valX (xs ++ [(k, x)]) j = if j = k then some x else valX xs j
  | [], _ => by
    by_cases h : j = k
    · simp [valX, h]
    · have : ¬ k = j := fun z => h z.symm
      simp [valX, h, this]
  | u :: r, hn => by
    have hu : ¬ u.1 = k := fun z => by simp [valX, z] at hn
    have hr : valX r k = none := by
      have e : valX (u :: r) k = valX r k := by simp [valX, hu]
      rw [← e]
      exact hn
    have ih := valX_app k j x r hr
    by_cases h : u.1 = j
    · have : ¬ j = k := fun z => hu (h.trans z)
      simp [valX, h, this]
    · have e1 : valX (u :: r ++ [(k, x)]) j = valX (r ++ [(k, x)]) j := by simp [valX, h]
      have e2 : valX (u :: r) j = valX r j := by simp [valX, h]
      rw [e1, e2]
      exact ih
theorem valX_put {κ α : Type} [DecidableEq κ] (xs : List (κ × α)) (k j : κ) (x : α) : valX (putX xs k x) j = if j = k then some x else valX xs j := by
  unfold putX
  rw [valX_any]
  cases e : valX xs k with
  | none =>
    rw [if_neg (by simp)]
    exact valX_app k j x xs e
  | some y =>
    rw [if_pos (by simp), valX_over]
    by_cases h : j = k
    · subst h
      rw [e]
      simp
    · simp [h]
theorem putX_len {κ α : Type} [DecidableEq κ] (xs : List (κ × α)) (k : κ) (x : α) : (putX xs k x).length ≤ xs.length + 1 := by
  unfold putX
  split
  · rw [List.length_map]
    exact Nat.le_succ _
  · rw [List.length_append]
    exact Nat.le_refl _
end MP


set_option Elab.async false
set_option linter.all false
set_option maxRecDepth 100000
set_option maxHeartbeats 4100000
/-! LwC: the law's own legs, lengths, begins (shared by the laws of paths). -/
namespace Law
open PySem L2 Evl Sk MP
local macro_rules | `(tactic| walk_at "sc") => `(tactic| first | omega | assumption | (with_reducible exact mulOk) | (with_reducible exact smOk) | (with_reducible exact ⟨by decide, smOk⟩) | decide | (simp only [List.length_cons, List.length_nil]; decide) | exact divOk (by omega))
section
variable {P : Program} {w : World} {K : PySem.W.Frag} {mg : Str → Option Value} {base : Heap}
/-- a chart of the law -/
structure ChOk (ch : ChV) : Prop where
  len : (lgOf ch).length ≤ 1000
  pts : ∀ l ∈ lgOf ch, (∃ p, valX (fxOf ch) (Sum.inr l.1) = some p ∧ PtOk p) ∧ ∃ p, valX (fxOf ch) (Sum.inr l.2.1) = some p ∧ PtOk p
  so : ∀ l ∈ lgOf ch, PyData.strOk l.1 = true ∧ PyData.strOk l.2.1 = true ∧ PyData.strOk l.2.2.1 = true
  ap : ∀ l ∈ lgOf ch, 1 ≤ ln (fxOf ch) l.1 l.2.1
abbrev lkey (a b : Str) : List Key := [Sum.inr a, Sum.inr b]
theorem sq_flip (a b : Int) : (a - b) * (a - b) = (b - a) * (b - a) := by
  rw [← Int.neg_mul_neg (a - b) (a - b), Int.neg_sub]
abbrev sp_lengths (K : Fg) : Sp := sp0 K [] (fOne rChart) ChOk (rDt rInt) fun ch L => ∀ l ∈ lgOf ch, valX L (lkey l.1 l.2.1) = some (ln (fxOf ch) l.1 l.2.1)
theorem sc_lengths : FnScope ["_law_chart_here", "_law_lengths_here", "_law_leg_here", "_law_a", "_law_b"] ["_law_chart_here"] (defScope s_lengths) := ⟨rfl, rfl, rfl, by decide +kernel, rfl, by decide +kernel, by decide +kernel⟩
theorem ok_lengths (N : Nm K mg) (T : Bt mg) : FnOk P w K mg base CX0 2 N.lengths.f N.lengths.fd ["_law_chart_here"] (sp_lengths K) := by
  refine fn_m N.lengths.F sc_lengths [] fun cdv A outer s G H E ch Q fam hp hk => ?_
  obtain ⟨hlen, hpts, _, _⟩ := hp
  show DS _ K ⟨[], _, G, H, []⟩ [some ⟨rChart, ch⟩, none, none, none, none] [] (defBody s_lengths) _
  refine s_set 1 (d_dnewT rInt (fun q1 hq1 => ?_))
  refine s_for (js := [2]) (w_lst (ra := rLeg) (d_recP 0 1 rfl chN_nd ?_))
  refine ⟨List (List Key × Int), fun i L => L.length ≤ i ∧ ∀ l ∈ (lgOf ch).take i, valX L (lkey l.1 l.2.1) = some (ln (fxOf ch) l.1 l.2.1), fun _ => [some ⟨rChart, ch⟩, some ⟨rAdr, q1⟩, none, none, none], fun L => [⟨q1, oDt rInt, L⟩], ⟨[], ⟨Nat.le_refl 0, fun l hl => by simp at hl⟩, ⟨rfl, rfl, trivial⟩, rfl⟩, fun g i l L hx hd => (g_name 2 ?_), fun L hd => ?_⟩
  · obtain ⟨hL, hd⟩ := hd
    have hi : i < (lgOf ch).length := (List.getElem?_eq_some_iff.mp hx).1
    obtain ⟨⟨p, hp1, op⟩, ⟨q, hq1, oq⟩⟩ := hpts l (List.mem_of_getElem? hx)
    have b1 : Bd 30 (p.1 - q.1) := Bd.of (by have := op.x0; have := oq.x1; omega) (by have := op.x1; have := oq.x0; omega)
    have b2 : Bd 30 (p.2 - q.2) := Bd.of (by have := op.y0; have := oq.y1; omega) (by have := op.y1; have := oq.y0; omega)
    have hd2 := d2_le op oq
    have hd0 := d2_nn p q
    have e2 : (p.1 - q.1) * (p.1 - q.1) + (p.2 - q.2) * (p.2 - q.2) = d2 p q := by
      unfold d2
      rw [sq_flip p.1, sq_flip p.2]
    have hz : L.length < sizeLine := by
      have : 100000 ≤ sizeLine := by decide
      omega
    refine s_set 3 (d_dk (rc := rPt) (d_recP 0 0 rfl chN_nd (d_keyS (d_ix (d_var (ra := rLeg) (x := l) 2 (d_int (i_tup 0 ⟨_, p, inferInstance, hp1, ?_⟩)))))))
    refine s_set 4 (d_dk (rc := rPt) (d_recP 0 0 rfl chN_nd (d_keyS (d_ix (d_var (ra := rLeg) (x := l) 2 (d_int (i_tup 1 ⟨_, q, inferInstance, hq1, ?_⟩)))))))
    refine s_dputT (rc := rInt) (d_call N.law_root_up (ok_law_root_up N T) (da_one (d_bin (d_bin (d_bin (d_ix (d_var 3 (d_int (i_tup 0 (d_ix (d_var 4 (d_int (i_tup 0 (o_sub (d_bin (d_ix (d_var 3 (d_int (i_tup 0 (d_ix (d_var 4 (d_int (i_tup 0 (o_sub (o_mul (by walk_at "sc") (d_bin (d_bin (d_ix (d_var 3 (d_int (i_tup 1 (d_ix (d_var 4 (d_int (i_tup 1 (o_sub (d_bin (d_ix (d_var 3 (d_int (i_tup 1 (d_ix (d_var 4 (d_int (i_tup 1 (o_sub (o_mul (by walk_at "sc") (o_add (sw_f ⟨by rw [e2]; exact hd0, by rw [e2]; exact hd2⟩ (d_var 1 (d_tupK (da_all (d_keyS (d_ix (d_var (ra := rLeg) (x := l) 2 (d_int (i_tup 0 (da_all (d_keyS (d_ix (d_var (ra := rLeg) (x := l) 2 (d_int (i_tup 1 (da_all0 ⟨(by walk_at "sc"), ⟨_, _, inferInstance, hz, ?_⟩⟩))))))))))))))))))))))))))))))))))))))))))))))))))))))))))))))))
    refine s_next (putX L (lkey l.1 l.2.1) (ln (fxOf ch) l.1 l.2.1)) ⟨Nat.le_trans (putX_len _ _ _) (by omega), fun m hm => ?_⟩ ⟨rfl, rfl, trivial⟩ ?_
    · rw [take_snoc hx] at hm
      rw [valX_put]
      by_cases e : lkey m.1 m.2.1 = lkey l.1 l.2.1
      · rw [if_pos e]
        have e' : m.1 = l.1 ∧ m.2.1 = l.2.1 := by
          simp only [lkey, List.cons.injEq, Sum.inr.injEq, and_true] at e
          exact e
        rw [e'.1, e'.2]
      · rw [if_neg e]
        rcases List.mem_append.mp hm with z | z
        · exact hd m z
        · rw [List.mem_singleton] at z
          exact absurd (by rw [z]) e
    · have e3 : ln (fxOf ch) l.1 l.2.1 = sqrU ((p.1 - q.1) * (p.1 - q.1) + (p.2 - q.2) * (p.2 - q.2)) := by
        unfold ln
        rw [pt_of hp1, pt_of hq1, e2]
      rw [e3]
  · obtain ⟨_, hd⟩ := hd
    have hd' : ∀ l ∈ (lgOf ch).take (lgOf ch).length, valX L (lkey l.1 l.2.1) = some (ln (fxOf ch) l.1 l.2.1) := hd
    rw [List.take_length] at hd'
    exact s_ret (d_var 1 (rt_done hq1 (hk ⟨rfl, hd'⟩)))
end
end Law


set_option Elab.async false
set_option linter.all false
set_option maxRecDepth 100000
set_option maxHeartbeats 4100000
/-! LwD: the law's own begins (shared by the laws of paths). -/
namespace Law
open PySem L2 Evl Sk MP
local macro_rules | `(tactic| walk_at "sc") => `(tactic| first | omega | assumption | (with_reducible exact mulOk) | (with_reducible exact smOk) | (with_reducible exact ⟨by decide, smOk⟩) | decide | (simp only [List.length_cons, List.length_nil]; decide) | exact divOk (by omega))
abbrev LnV := List (List Key × Int)
def bgL (L : LnV) (r : List Str) : Nat → Int
  | 0 => 0
  | k + 1 => bgL L r k + (valX L (lkey (at_ r k) (at_ r (k + 1)))).getD 0
/-- the law's lengths are right -/
abbrev LenOk (ch : ChV) (L : LnV) : Prop := ∀ l ∈ lgOf ch, valX L (lkey l.1 l.2.1) = some (ln (fxOf ch) l.1 l.2.1)
theorem lgb_spec {legs : List Leg} {s e : Str} {l : Leg} (h : lgb legs s e = some l) : l ∈ legs ∧ l.1 = s ∧ l.2.1 = e := by
  unfold lgb at h
  have h1 := List.mem_of_find?_eq_some h
  have h2 := List.find?_some h
  simp only [Bool.and_eq_true, decide_eq_true_eq] at h2
  exact ⟨h1, h2.1, h2.2⟩
theorem LenOk.at {ch : ChV} {L : LnV} {r : List Str} (h : LenOk ch L) (hr : RtV ch r) {k : Nat} (hk : k + 1 < r.length) : valX L (lkey (at_ r k) (at_ r (k + 1))) = some (ln (fxOf ch) (at_ r k) (at_ r (k + 1))) := by
  obtain ⟨l, hl⟩ := hr.lg k hk
  obtain ⟨h1, h2, h3⟩ := lgb_spec hl
  have := h l h1
  rw [h2, h3] at this
  exact this
theorem bgL_eq {ch : ChV} {L : LnV} {r : List Str} (h : LenOk ch L) (hr : RtV ch r) : ∀ {k : Nat}, k < r.length → bgL L r k = bg (fxOf ch) r k
  | 0, _ => rfl
  | k + 1, hk => by
    show bgL L r k + (valX L (lkey (at_ r k) (at_ r (k + 1)))).getD 0 = bg (fxOf ch) r k + ln (fxOf ch) (at_ r k) (at_ r (k + 1))
    rw [bgL_eq h hr (k := k) (by omega), h.at hr hk]
    rfl
theorem bgLs_eq {ch : ChV} {L : LnV} {r : List Str} (h : LenOk ch L) (hr : RtV ch r) : (List.range r.length).map (bgL L r) = begins (fxOf ch) r :=
  List.map_congr_left fun k hk => bgL_eq h hr (List.mem_range.mp hk)
theorem begins_len (fx : Fx) (r : List Str) : (begins fx r).length = r.length := by
  unfold begins
  rw [List.length_map, List.length_range]
section
variable {P : Program} {w : World} {K : PySem.W.Frag} {mg : Str → Option Value} {base : Heap}
end
end Law


set_option Elab.async false
set_option linter.all false
set_option maxRecDepth 100000
set_option maxHeartbeats 4100000
/-! LwG: the law's own names and legs (shared by the laws of charts). -/
namespace Law
open PySem L2 Evl Sk MP
local macro_rules | `(tactic| walk_at "sc") => `(tactic| first | omega | assumption | (with_reducible exact mulOk) | (with_reducible exact smOk) | (with_reducible exact ⟨by decide, smOk⟩) | decide | (simp only [List.length_cons, List.length_nil]; decide) | exact divOk (by omega))
theorem strOk_app (x y : Str) : PyData.strOk (x ++ y) = (PyData.strOk x && PyData.strOk y) := by
  unfold PyData.strOk
  show Array.all (x.cps ++ y.cps) _ = _
  rw [Array.all_append]
theorem letters_ok : ∀ c ∈ ("QXAMBZKCTDRE" : Str).cps.toList, PyData.strOk ⟨#[c]⟩ = true := by decide +kernel
theorem nd_ne {α : Type} {l : List α} (h : l.Nodup) {i j : Nat} {a b : α} (ha : l[i]? = some a) (hb : l[j]? = some b) (hij : i ≠ j) : a ≠ b := by
  have h' := List.pairwise_iff_getElem.mp h
  obtain ⟨hi, ea⟩ := List.getElem?_eq_some_iff.mp ha
  obtain ⟨hj, eb⟩ := List.getElem?_eq_some_iff.mp hb
  rw [← ea, ← eb]
  rcases Nat.lt_or_gt_of_ne hij with z | z
  · exact h' i j hi hj z
  · exact fun e => h' j i hj hi z e.symm
abbrev Ls : List Nat := ("QXAMBZKCTDRE" : Str).cps.toList
theorem ls_inj : ∀ a b : Fin 12, Ls.getD a.1 0 = Ls.getD b.1 0 → a = b := by decide +kernel
/-- the letters of the names -/
def LetAt (n : Int) (d : List Str) : Prop := ∀ (j : Nat) (t : Str), d[j]? = some t → t.cps[0]? = some (Ls.getD (((j : Int) + n) % 12).toNat 0)
theorem LetAt.nodup {n : Int} {d : List Str} (h : LetAt n d) (hl : d.length ≤ 12) : d.Nodup := by
  refine List.pairwise_iff_getElem.mpr fun i j hi hj hij e => ?_
  have h1 := h i _ (List.getElem?_eq_getElem hi)
  have h2 := h j _ (List.getElem?_eq_getElem hj)
  rw [e, h2] at h1
  have m : ∀ x : Int, (x % 12).toNat < 12 := fun x => by omega
  have z := ls_inj ⟨_, m ((j : Int) + n)⟩ ⟨_, m ((i : Int) + n)⟩ (Option.some.inj h1)
  have z' := congrArg Fin.val z
  dsimp only at z'
  omega
theorem LetAt.snoc {n : Int} {d : List Str} {c : Nat} {s : Str} (h : LetAt n d) (hc : Ls[(((d.length : Int) + n) % 12).toNat]? = some c) : LetAt n (d ++ [⟨#[c]⟩ ++ s]) := fun j t hj => by
  by_cases e : j < d.length
  · rw [List.getElem?_append_left e] at hj
    exact h j t hj
  · have hl := (List.getElem?_eq_some_iff.mp hj).1
    rw [List.length_append] at hl
    have hl : j < d.length + 1 := hl
    have ej : j = d.length := by omega
    subst ej
    rw [List.getElem?_append_right (Nat.le_refl _), Nat.sub_self] at hj
    have et : ⟨#[c]⟩ ++ s = t := Option.some.inj hj
    rw [← et, List.getD_eq_getElem?_getD, hc]
    show (#[c] ++ s.cps)[0]? = some c
    simp [Array.getElem?_append]
section
variable {P : Program} {w : World} {K : PySem.W.Frag} {mg : Str → Option Value} {base : Heap}
abbrev sp_names (K : Fg) : Sp := sp1 K [] (fCons rAdr (fOne rInt)) (fun x => 2 ≤ x.2 ∧ x.2 ≤ 12) (fun x => ⟨x.1, oSt, ()⟩) (rLst rStr) fun x y => y.length = x.2.toNat ∧ (∀ n ∈ y, PyData.strOk n = true) ∧ y.Nodup
theorem sc_names : FnScope ["_law_state", "_law_many", "_law_shift", "_law_names_here", "_law_k", "_law_letter"] ["_law_state", "_law_many"] (defScope s_names) := ⟨rfl, rfl, rfl, by decide +kernel, rfl, by decide +kernel, by decide +kernel⟩
theorem ok_names (N : Nm K mg) (T : Bt mg) : FnOk P w K mg base CX0 3 N.names.f N.names.fd ["_law_state", "_law_many"] (sp_names K) := by
  refine fn_m N.names.F sc_names [] fun cdv A outer s G H E x Q fam hp hk => ?_
  obtain ⟨st, m⟩ := x
  obtain ⟨h2, h12⟩ := hp
  dsimp only at h2 h12
  have hk' : ∀ {Γ : Gm} {d : List Str}, d.length = m.toNat → (∀ n ∈ d, PyData.strOk n = true) ∧ d.Nodup → RT K ⟨[], _, G, H, []⟩ Γ [⟨st, oSt, ()⟩] (rLst rStr) d _ := fun {Γ d} e e2 => hk ⟨rfl, e, e2⟩
  clear hk
  show DS _ K ⟨[], _, G, H, []⟩ [some ⟨rAdr, st⟩, some ⟨rInt, m⟩, none, none, none, none] [⟨st, oSt, ()⟩] (defBody s_names) _
  refine s_set 2 (d_call N.draw (ok_draw N T) (da_cons (d_var 0 (da_one (d_int (sw_1 ⟨(by walk_at "sc"), (by walk_at "sc")⟩ (fun n hn => ?_)))))))
  obtain ⟨n0, n1⟩ := hn
  dsimp only at n1
  refine s_set 3 (d_lstO (ra := rStr) (da_all0 ⟨(by walk_at "sc"), fun q3 hq3 => ?_⟩))
  refine s_for (js := [4]) (w_rng1 T.range (d_var 1 ⟨(by omega), ?_⟩))
  refine ⟨List Str, fun i d => d.length = i ∧ i ≤ m.toNat ∧ (∀ n ∈ d, PyData.strOk n = true) ∧ LetAt n d, fun _ => [some ⟨rAdr, st⟩, some ⟨rInt, m⟩, some ⟨rInt, n⟩, some ⟨rAdr, q3⟩, none, none], fun d => [⟨q3, oLst rStr, d⟩, ⟨st, oSt, ()⟩], ⟨[], ⟨rfl, Nat.zero_le _, fun n hn => absurd hn List.not_mem_nil, fun j t h => by simp at h⟩, ⟨rfl, rfl, rfl, rfl, trivial⟩, rfl⟩, fun g i x d hx hd => (g_name 4 ?_), fun d hd => ?_⟩
  · obtain ⟨hd1, _, hso, hlet⟩ := hd
    obtain ⟨hlt, ex⟩ := rgI_item hx
    obtain ⟨c, hc, mc, mc2⟩ := atI_lt (xs := ("QXAMBZKCTDRE" : Str).cps.toList) (i := (x + n) % 12) (by omega) (show (x + n) % 12 < 12 by omega)
    refine s_set 5 (d_ix (d_str (d_bin (d_callT T.int bt_int (da_one (d_bin (d_var 4 (d_var 2 (o_add (c_int (d_int (o_mod (by decide) (i_str (by decide) hc ?_)))))))))))))
    refine s_expr (d_app (ra := rStr) (d_var 3 ⟨_, _, inferInstance, (d_bin (d_var 5 (d_call N.pick (ok_pick (ra := rStr) N T) (da_cons (d_var 0 (da_one (d_lst (ra := rStr) (da_all (d_str (da_all (d_str (da_all (d_str (da_all (d_str (da_all (d_str (da_all (d_str (da_all0 ⟨(by walk_at "sc"), (sw_1 ⟨by walk_at "sc", by walk_at "sc"⟩ (fun c2 hc2 => (o_addS ?_ ⟨_, _, inferInstance, ?_, ?_⟩)))⟩))))))))))))))))))))⟩))
    · have hl : c2.length ≤ 4 := by
        dsimp only at hc2
        simp only [List.mem_cons, List.not_mem_nil, or_false] at hc2
        rcases hc2 with rfl | rfl | rfl | rfl | rfl | rfl <;> decide
      have : 100000 ≤ sizeLine := by decide
      show 1 + c2.length ≤ sizeLine
      omega
    · have : 100000 ≤ sizeLine := by decide
      omega
    · have ho : PyData.strOk c2 = true := by
        dsimp only at hc2
        simp only [List.mem_cons, List.not_mem_nil, or_false] at hc2
        rcases hc2 with rfl | rfl | rfl | rfl | rfl | rfl <;> decide +kernel
      refine s_next (d ++ [⟨#[c]⟩ ++ c2]) ⟨by rw [List.length_append, hd1]; rfl, by omega, fun n hn => ?_, hlet.snoc (by rw [hd1, show (i : Int) = x by omega]; exact mc2)⟩ ⟨rfl, rfl, rfl, rfl, trivial⟩ rfl
      rcases List.mem_append.mp hn with z | z
      · exact hso n z
      · rw [List.mem_singleton.mp z, strOk_app, letters_ok c mc, ho]
        rfl
  · obtain ⟨hd1, _, hso, hlet⟩ := hd
    rw [rgI_len] at hd1
    exact s_ret (d_var 3 (rt_done hq3 (hk' hd1 ⟨hso, hlet.nodup (by omega)⟩)))
theorem bt_any : bootBuiltins "any" = some (.builtin "any") := by decide +kernel
theorem bt_all : bootBuiltins "all" = some (.builtin "all") := by decide +kernel
structure LegIn (ns : List Str) (ls : List Leg) : Prop where
  s : ∀ l ∈ ls, l.1 ∈ ns
  e : ∀ l ∈ ls, l.2.1 ∈ ns
  o : ∀ l ∈ ls, PyData.strOk l.2.2.1 = true
  n : ∀ l ∈ ls, l.1 ≠ l.2.1
  g : ∀ n, (ls.filter fun l => decide (l.1 = n)).length ≤ 3
theorem LegIn.nil (ns : List Str) : LegIn ns [] := ⟨fun _ h => absurd h List.not_mem_nil, fun _ h => absurd h List.not_mem_nil, fun _ h => absurd h List.not_mem_nil, fun _ h => absurd h List.not_mem_nil, fun _ => Nat.zero_le _⟩
theorem cnt_snoc (ls : List Leg) (l : Leg) (n : Str) : ((ls ++ [l]).filter fun x => decide (x.1 = n)).length = (ls.filter fun x => decide (x.1 = n)).length + if l.1 = n then 1 else 0 := by
  rw [List.filter_append, List.length_append, List.filter_cons]
  by_cases e : l.1 = n
  · rw [if_pos e, if_pos (by simpa using e)]; rfl
  · rw [if_neg e, if_neg (by simpa using e)]; rfl
theorem LegIn.snoc {ns : List Str} {ls : List Leg} {l : Leg} (h : LegIn ns ls) (h1 : l.1 ∈ ns) (h2 : l.2.1 ∈ ns) (h3 : PyData.strOk l.2.2.1 = true) (h4 : l.1 ≠ l.2.1) (h5 : (ls.filter fun x => decide (x.1 = l.1)).length < 3) : LegIn ns (ls ++ [l]) :=
  ⟨fun x hx => by
    rcases List.mem_append.mp hx with z | z
    · exact h.s x z
    · rw [List.mem_singleton.mp z]
      exact h1, fun x hx => by
    rcases List.mem_append.mp hx with z | z
    · exact h.e x z
    · rw [List.mem_singleton.mp z]
      exact h2, fun x hx => by
    rcases List.mem_append.mp hx with z | z
    · exact h.o x z
    · rw [List.mem_singleton.mp z]
      exact h3, fun x hx => by
    rcases List.mem_append.mp hx with z | z
    · exact h.n x z
    · rw [List.mem_singleton.mp z]
      exact h4, fun n => by
    rw [cnt_snoc]
    by_cases e : l.1 = n
    · rw [if_pos e, ← e]; omega
    · rw [if_neg e]; exact h.g n⟩
abbrev rPr : Rp (Int × Int) := rTup (fCons rInt (fOne rInt))
abbrev sp_legs (K : Fg) : Sp := sp1N K [] (fCons rAdr (fOne (rLst rStr))) (fun x => 2 ≤ x.2.length ∧ x.2.length ≤ 12 ∧ x.2.Nodup) (fun x => ⟨x.1, oSt, ()⟩) (oLst rLeg) fun x y => y.length ≤ 36 ∧ LegIn x.2 y
abbrev N_legs : List Str := ["_law_state", "_law_names_here", "_law_legs_here", "_law_many", "_law_k", "_law_j", "_law_other", "_law_levels", "_law_leg_here"]
theorem sc_legs : FnScope N_legs ["_law_state", "_law_names_here"] (defScope s_legs) := ⟨rfl, rfl, rfl, by decide +kernel, rfl, by decide +kernel, by decide +kernel⟩
theorem ok_legs (N : Nm K mg) (T : Bt mg) : FnOk P w K mg base CX0 3 N.legs.f N.legs.fd ["_law_state", "_law_names_here"] (sp_legs K) := by
  refine fn_m N.legs.F sc_legs [] fun cdv A outer s G H E x Q fam hp hk => ?_
  obtain ⟨st, ns⟩ := x
  obtain ⟨h2, h12, hnd⟩ := hp
  dsimp only at h2 h12 hnd
  have hk' : ∀ {Γ : Gm} {q : Addr} {d : List Leg}, d.length ≤ 36 → LegIn ns d → RT K ⟨[], _, G, H, []⟩ Γ [⟨q, oLst rLeg, d⟩, ⟨st, oSt, ()⟩] rAdr q _ := fun {Γ q d} e1 e2 => hk ⟨d, ⟨e1, e2⟩, rfl⟩
  clear hk
  have z1 : 100000 ≤ sizeLine := by decide
  show DS _ K ⟨[], _, G, H, []⟩ [some ⟨rAdr, st⟩, some ⟨(rLst rStr), ns⟩, none, none, none, none, none, none, none] [⟨st, oSt, ()⟩] (defBody s_legs) _
  refine s_set 2 (d_lstO (ra := rLeg) (da_all0 ⟨(by walk_at "sc"), fun q2 hq2 => ?_⟩))
  refine s_set 3 (d_callB T.len bt_len (da_one (d_var 1 (c_lenL ?_))))
  refine s_for (js := [4]) (w_rng1 T.range (d_var 3 ⟨(by omega), ?_⟩))
  rw [Int.toNat_natCast]
  refine ⟨List Leg, fun i d => (d.length ≤ 3 * i ∧ LegIn ns d) ∧ ∀ l ∈ d, l.1 ∈ ns.take i, fun _ => [some ⟨rAdr, st⟩, some ⟨(rLst rStr), ns⟩, some ⟨rAdr, q2⟩, some ⟨rInt, (ns.length : Int)⟩, none, none, none, none, none], fun d => [⟨q2, oLst rLeg, d⟩, ⟨st, oSt, ()⟩], ⟨[], ⟨⟨Nat.le_refl _, LegIn.nil ns⟩, fun l h => absurd h List.not_mem_nil⟩, ⟨rfl, rfl, rfl, rfl, trivial⟩, rfl⟩, fun g i x d hx hd => (g_name 4 ?_), fun d hd => ?_⟩
  · obtain ⟨⟨hd1, hd2⟩, hdt⟩ := hd
    obtain ⟨hlt, ex⟩ := rgI_item hx
    have ex : x = (i : Int) := by omega
    subst ex
    obtain ⟨nk, gk, mk, gk2⟩ := atI_lt (xs := ns) (i := (i : Int)) (by omega) (by omega)
    have gki : ns[i]? = some nk := by
      have := gk2
      rw [Int.toNat_natCast] at this
      exact this
    have htk : ns.take (i + 1) = ns.take i ++ [nk] := by rw [List.take_succ, gki]; rfl
    have hnt : nk ∉ ns.take i := fun z => by
      have h := hnd
      rw [← List.take_append_drop (i + 1) ns, htk, List.append_assoc, List.nodup_append] at h
      exact h.2.2 nk z nk (List.mem_append_left _ (List.mem_singleton.mpr rfl)) rfl
    have h0 : (d.filter fun l : Leg => decide (l.1 = nk)).length = 0 := by
      rw [List.length_eq_zero_iff, List.filter_eq_nil_iff]
      intro l hl z
      have z := of_decide_eq_true z
      exact hnt (by rw [← z]; exact hdt l hl)
    have hdt2 : ∀ l ∈ d, l.1 ∈ ns.take (i + 1) := fun l hl => by rw [htk]; exact List.mem_append_left _ (hdt l hl)
    refine s_for (js := [5]) (w_rng1 T.range (d_call N.pick (ok_pick (ra := rInt) N T) (da_cons (d_var 0 (da_one (d_lst (ra := rInt) (da_all (d_int (da_all (d_int (da_all (d_int (da_all (d_int (da_all (d_int (da_all0 ⟨(by walk_at "sc"), (sw_1 ⟨by walk_at "sc", by walk_at "sc"⟩ (fun c hc => ⟨?_, ?_⟩))⟩)))))))))))))))))
    · dsimp only at hc
      simp only [List.mem_cons, List.not_mem_nil, or_false] at hc
      rcases hc with rfl | rfl | rfl | rfl | rfl <;> decide
    have hc3 : c.toNat ≤ 3 := by
      dsimp only at hc
      simp only [List.mem_cons, List.not_mem_nil, or_false] at hc
      rcases hc with rfl | rfl | rfl | rfl | rfl <;> decide
    refine ⟨List Leg, fun j d => (d.length ≤ 3 * i + j ∧ LegIn ns d) ∧ (d.filter fun l : Leg => decide (l.1 = nk)).length ≤ j ∧ ∀ l ∈ d, l.1 ∈ ns.take (i + 1), fun _ => [some ⟨rAdr, st⟩, some ⟨(rLst rStr), ns⟩, some ⟨rAdr, q2⟩, some ⟨rInt, (ns.length : Int)⟩, some ⟨rInt, (i : Int)⟩, none, none, none, none], fun d => [⟨q2, oLst rLeg, d⟩, ⟨st, oSt, ()⟩], ⟨d, ⟨⟨hd1, hd2⟩, by omega, hdt2⟩, ⟨rfl, rfl, rfl, rfl, rfl, trivial⟩, rfl⟩, fun g2 j x2 d2 hx2 hdd => (g_name 5 ?_), fun d2 hdd => ?_⟩
    · obtain ⟨⟨hd3, hd4⟩, hd5, hd6⟩ := hdd
      obtain ⟨hlt2, _⟩ := rgI_item hx2
      have bk : Bd 10 ((ns.length : Int) - 1) := Bd.of (by omega) (by omega)
      have hlen : d2.length ≤ sizeLine := by omega
      refine s_set 6 (d_ix (d_var 1 (d_bin (d_callT T.int bt_int (da_one (d_bin (d_bin (d_var 4 (d_int (o_add (d_call N.draw (ok_draw N T) (da_cons (d_var 0 (da_one (d_bin (d_var 3 (d_int (o_sub (sw_1 ⟨by omega, (by walk_at "sc")⟩ (fun n hn => (o_add (c_int (d_var 3 (o_mod (by omega) (i_lst (x := ns.getD (((i : Int) + 1 + n) % (ns.length : Int)).toNat Str.empty) (atI_getD _ (Int.emod_nonneg _ (by omega)) (Int.emod_lt_of_pos _ (by omega))) ?_)))))))))))))))))))))))))
      have mo : ns.getD (((i : Int) + 1 + n) % (ns.length : Int)).toNat Str.empty ∈ ns := by
        have hl : (((i : Int) + 1 + n) % (ns.length : Int)).toNat < ns.length := by
          have := Int.emod_nonneg ((i : Int) + 1 + n) (show (ns.length : Int) ≠ 0 by omega)
          have := Int.emod_lt_of_pos ((i : Int) + 1 + n) (show (0 : Int) < ns.length by omega)
          omega
        rw [List.getD_eq_getElem?_getD, List.getElem?_eq_getElem hl]
        exact List.getElem_mem hl
      have hne : nk ≠ ns.getD (((i : Int) + 1 + n) % (ns.length : Int)).toNat Str.empty := by
        obtain ⟨n0, n1⟩ := hn
        dsimp only at n1
        have q1 := Int.emod_nonneg ((i : Int) + 1 + n) (show (ns.length : Int) ≠ 0 by omega)
        have q2 := Int.emod_lt_of_pos ((i : Int) + 1 + n) (show (0 : Int) < ns.length by omega)
        have hl : (((i : Int) + 1 + n) % (ns.length : Int)).toNat < ns.length := by omega
        have q3 : ((i : Int) + 1 + n) % (ns.length : Int) ≠ (i : Int) := by
          rcases Int.lt_or_le ((i : Int) + 1 + n) ns.length with z | z
          · rw [Int.emod_eq_of_lt (by omega) z]
            omega
          · rw [show (i : Int) + 1 + n = ((i : Int) + 1 + n - ns.length) + ns.length by omega, Int.add_emod_right, Int.emod_eq_of_lt (by omega) (by omega)]
            omega
        refine nd_ne hnd gk2 (by rw [List.getD_eq_getElem?_getD, List.getElem?_eq_getElem hl]; rfl) ?_
        omega
      generalize ns.getD (((i : Int) + 1 + n) % (ns.length : Int)).toNat Str.empty = ot at mo hne
      refine s_ifP (dt_notP (dt_val (d_callB T.any bt_any (da_one (d_lcPw (js := [8]) (ra := rLeg) (rb := rBool) (f := fun l : Leg => decide (l.1 = nk) && decide (l.2.1 = ot)) [("_law_leg_here", 8)] [8] (fun _ => blkOk_by (N := N_legs) (sc := defScope s_legs) (by decide +kernel)) (w_own (d_var 2 ⟨_, _, inferInstance, ⟨rfl, hlen, fun gg D ys x hx => (g_name 8 (d_andP (d_cmp (d_ix (d_var (ra := rLeg) (x := x) 8 (d_int (i_tup 0 (d_ix (d_var 1 (d_var 4 (i_lst gk (o_eqS ⟨rfl, rfl⟩)))))))))) (fun hb => (d_one (d_cmp (d_ix (d_var (ra := rLeg) (x := x) 8 (d_int (i_tup 1 (d_var 6 (o_eqS ⟨rfl, rfl⟩))))))))))), (c_anyG ⟨rfl, rfl⟩)⟩⟩))))))) (fun hb => ?_) (fun hb => ?_)
      · refine s_set 7 (d_call N.pick (ok_pick (ra := rPr) N T) (da_cons (d_var 0 (da_one (d_lst (ra := rPr) (da_all (d_tup (da_cons (d_int (da_one (d_int (da_all (d_tup (da_cons (d_int (da_one (d_int (da_all (d_tup (da_cons (d_int (da_one (d_int (da_all (d_tup (da_cons (d_int (da_one (d_int (da_all (d_tup (da_cons (d_int (da_one (d_int (da_all0 ⟨(by walk_at "sc"), (sw_1 ⟨by walk_at "sc", by walk_at "sc"⟩ (fun c5 hc5 => ?_))⟩))))))))))))))))))))))))))))))))))))
        refine s_expr (d_app (ra := rLeg) (d_var 2 ⟨_, _, inferInstance, (d_tup (da_cons (d_ix (d_var 1 (d_var 4 (i_lst gk (da_cons (d_var 6 (da_cons (d_call N.pick (ok_pick (ra := rStr) N T) (da_cons (d_var 0 (da_one (d_lst (ra := rStr) (da_all (d_str (da_all (d_str (da_all (d_str (da_all0 ⟨(by walk_at "sc"), (sw_1 ⟨by walk_at "sc", by walk_at "sc"⟩ (fun c6 hc6 => (da_cons (d_ix (d_var 7 (d_int (i_tup 0 (da_one (d_ix (d_var 7 (d_int (i_tup 1 ⟨_, _, inferInstance, ?_, ?_⟩))))))))))))⟩)))))))))))))))))))))⟩))
        · omega
        · have ho : PyData.strOk c6 = true := by
            dsimp only at hc6
            simp only [List.mem_cons, List.not_mem_nil, or_false] at hc6
            rcases hc6 with rfl | rfl | rfl <;> decide +kernel
          refine s_out (s_next (d2 ++ [(nk, ot, c6, c5.1, c5.2)]) ⟨⟨?_, hd4.snoc mk mo ho hne (by dsimp only; omega)⟩, ?_, fun l hl => ?_⟩ ⟨rfl, rfl, rfl, rfl, rfl, trivial⟩ rfl)
          · rw [List.length_append]
            show d2.length + 1 ≤ _
            omega
          · rw [cnt_snoc, if_pos rfl]
            omega
          · rcases List.mem_append.mp hl with z | z
            · exact hd6 l z
            · rw [List.mem_singleton.mp z, htk]
              exact List.mem_append_right _ (List.mem_singleton.mpr rfl)
      · exact s_out (s_next d2 ⟨⟨by omega, hd4⟩, by omega, hd6⟩ ⟨rfl, rfl, rfl, rfl, rfl, trivial⟩ rfl)
    · obtain ⟨⟨hd3, hd4⟩, hd5, hd6⟩ := hdd
      rw [rgI_len] at hd3
      exact s_next d2 ⟨⟨by omega, hd4⟩, hd6⟩ ⟨rfl, rfl, rfl, rfl, trivial⟩ rfl
  · obtain ⟨⟨hd1, hd2⟩, _⟩ := hd
    rw [rgI_len] at hd1
    exact s_ret (d_var 2 (hk' (by omega) hd2))
end
end Law


set_option Elab.async false
set_option linter.all false
set_option maxRecDepth 100000
set_option maxHeartbeats 4100000
/-! LwH08: the law's own chart, its holds too (k08). -/
namespace Law
open PySem L2 Evl Sk MP
local macro_rules | `(tactic| walk_at "sc") => `(tactic| first | omega | assumption | (with_reducible exact mulOk) | (with_reducible exact smOk) | (with_reducible exact ⟨by decide, smOk⟩) | decide | (simp only [List.length_cons, List.length_nil]; decide) | exact divOk (by omega))
/-- a test whose answer does not matter -/
theorem dt_all {ι : Type} {F : ι → Cx} {K : PySem.W.Frag} {B : Bs} {Γ : Gm} {O : List Own} {e : Expr} {Φ : Bool → List Own → Prop} (h : DT F K B Γ O e fun _ O' => O' = O) (k : ∀ b, Φ b O) : DT F K B Γ O e Φ := dt_mono h fun b O' e1 => by
  subst e1
  exact k b
theorem ptb {m y k : Int} (h2 : 2 ≤ m) (h12 : m ≤ 12) (y0 : -20000 ≤ y) (y1 : y ≤ 20000) (k0 : 0 ≤ k) (k1 : k ≤ 12) : -1000000 ≤ m * y + k ∧ m * y + k ≤ 1000000 := by
  have : m = 2 ∨ m = 3 ∨ m = 4 ∨ m = 5 ∨ m = 6 ∨ m = 7 ∨ m = 8 ∨ m = 9 ∨ m = 10 ∨ m = 11 ∨ m = 12 := by omega
  rcases this with rfl | rfl | rfl | rfl | rfl | rfl | rfl | rfl | rfl | rfl | rfl <;> omega
theorem ln_pos {p q : Pt} (h : p.2 ≠ q.2) : 1 ≤ sqrU (d2 p q) := by
  have h1 := sq_nn (q.1 - p.1)
  have h2 := sq_pos (show q.2 - p.2 ≠ 0 by omega)
  obtain ⟨u0, u1, _⟩ := up_ok (d2_nn p q)
  rcases Int.lt_or_le (sqrU (d2 p q)) 1 with z | z
  · have e : sqrU (d2 p q) = 0 := by omega
    rw [e] at u1
    unfold d2 at u1
    omega
  · exact z
/-- the first names have their points -/
def FxAt (m : Int) (fx : Fx) (ns : List Str) (i : Nat) : Prop := ∀ (k : Nat) (n : Str), k < i → ns[k]? = some n → ∃ p, valX fx (Sum.inr n) = some p ∧ PtOk p ∧ p.2 % m = (k : Int)
theorem FxAt.put {m : Int} {fx : Fx} {ns : List Str} {i : Nat} {n : Str} {p : Pt} (h : FxAt m fx ns i) (hnd : ns.Nodup) (hn : ns[i]? = some n) (hp : PtOk p) (hm : p.2 % m = (i : Int)) : FxAt m (putX fx (Sum.inr n) p) ns (i + 1) := fun k t hk ht => by
  rw [valX_put]
  by_cases e : k = i
  · subst e
    rw [hn] at ht
    have et : n = t := Option.some.inj ht
    rw [if_pos (by rw [et])]
    exact ⟨p, rfl, hp, hm⟩
  · rw [if_neg fun z => nd_ne hnd ht hn e (Sum.inr.inj z)]
    exact h k t (by omega) ht
abbrev hoOf (c : ChV) : List (Key × Str) := c.1.1.2.2.2.2
/-- holds lie on legs there and back -/
def HoAt (lg : List Leg) (ho : List (Key × Str)) : Prop := ∀ (n m : Str), valX ho (Sum.inr n) = some m → (∃ l ∈ lg, l.1 = n ∧ l.2.1 = m) ∧ ∃ l ∈ lg, l.1 = m ∧ l.2.1 = n
theorem HoAt.put {lg : List Leg} {ho : List (Key × Str)} (h : HoAt lg ho) {l : Leg} (hl : l ∈ lg) (hb : 0 < (lg.filter fun o : Leg => decide (o.1 = l.2.1) && decide (o.2.1 = l.1)).length) : HoAt lg (putX ho (Sum.inr l.1) l.2.1) := fun n m e => by
  rw [valX_put] at e
  by_cases z : (Sum.inr n : Key) = Sum.inr l.1
  · rw [if_pos z] at e
    have z := Sum.inr.inj z
    have e := Option.some.inj e
    subst z e
    obtain ⟨o, ho⟩ := List.exists_mem_of_length_pos hb
    obtain ⟨h1, h2⟩ := List.mem_filter.mp ho
    simp only [Bool.and_eq_true, decide_eq_true_eq] at h2
    exact ⟨⟨l, hl, rfl, rfl⟩, o, h1, h2.1, h2.2⟩
  · rw [if_neg z] at e
    exact h n m e
/-- a chart of the law, by its names -/
structure ChQ (c : ChV) (m : Int) (ns : List Str) : Prop where
  l2 : 2 ≤ ns.length
  l12 : ns.length ≤ 12
  nd : ns.Nodup
  so : ∀ n ∈ ns, PyData.strOk n = true
  ky : (fxOf c).map (·.1) = ns.map Sum.inr
  fx : FxAt m (fxOf c) ns ns.length
  li : LegIn ns (lgOf c)
  ll : (lgOf c).length ≤ 100
  ho : HoAt (lgOf c) (hoOf c)
theorem ChQ.pt {c : ChV} {m : Int} {ns : List Str} (h : ChQ c m ns) {n : Str} (hn : n ∈ ns) : ∃ p, valX (fxOf c) (Sum.inr n) = some p ∧ PtOk p := by
  obtain ⟨a, ha⟩ := List.getElem?_of_mem hn
  obtain ⟨p, p1, p2, _⟩ := h.fx a _ (List.getElem?_eq_some_iff.mp ha).1 ha
  exact ⟨p, p1, p2⟩
theorem ChQ.ap {c : ChV} {m : Int} {ns : List Str} (h : ChQ c m ns) {x y : Str} (hx : x ∈ ns) (hy : y ∈ ns) (hne : x ≠ y) : 1 ≤ ln (fxOf c) x y := by
  obtain ⟨a, ha⟩ := List.getElem?_of_mem hx
  obtain ⟨b, hb⟩ := List.getElem?_of_mem hy
  obtain ⟨p, p1, _, p3⟩ := h.fx a _ (List.getElem?_eq_some_iff.mp ha).1 ha
  obtain ⟨p', p1', _, p3'⟩ := h.fx b _ (List.getElem?_eq_some_iff.mp hb).1 hb
  have hab : a ≠ b := fun e => hne (by
    subst e
    rw [ha] at hb
    exact Option.some.inj hb)
  unfold ln
  rw [pt_of p1, pt_of p1']
  refine ln_pos fun e => hab ?_
  rw [e] at p3
  omega
theorem ChQ.ok {c : ChV} {m : Int} {ns : List Str} (h : ChQ c m ns) : ChOk c where
  len := Nat.le_trans h.ll (by decide)
  pts := fun l hl => ⟨h.pt (h.li.s l hl), h.pt (h.li.e l hl)⟩
  so := fun l hl => ⟨h.so _ (h.li.s l hl), h.so _ (h.li.e l hl), h.li.o l hl⟩
  ap := fun l hl => h.ap (h.li.s l hl) (h.li.e l hl) (h.li.n l hl)
theorem putX_key {κ α : Type} [DecidableEq κ] {xs : List (κ × α)} {k : κ} {x : α} (h : k ∉ xs.map (·.1)) : (putX xs k x).map (·.1) = xs.map (·.1) ++ [k] := by
  unfold putX
  rw [if_neg, List.map_append]
  · rfl
  · intro z
    obtain ⟨u, hu, e⟩ := List.any_eq_true.mp z
    exact h (List.mem_map.mpr ⟨u, hu, of_decide_eq_true e⟩)
section
variable {P : Program} {w : World} {K : PySem.W.Frag} {mg : Str → Option Value} {base : Heap}
abbrev chOwn (c : ChV) (q ql qh : Addr) : List Own := [⟨q, oRec chN chFO, chO c ql qh⟩, ⟨ql, oLst rLeg, lgOf c⟩, ⟨qh, oLst rHour, hrOf c⟩]
abbrev sp_chart (K : Fg) : Sp := spM K [] (fCons rAdr (fCons rInt (fOne rInt))) (fun x => (2 ≤ x.2.1 ∧ x.2.1 ≤ 12) ∧ 0 ≤ x.2.2 ∧ x.2.2 ≤ 20000) (fun x => [⟨x.1, oSt, ()⟩]) rAdr fun x q O' => ∃ c ns ql qh, (ChQ c x.2.1 ns ∧ hrOf c = []) ∧ O' = chOwn c q ql qh ++ [⟨x.1, oSt, ()⟩]
/-- it is asked -/
theorem sw_chart {B : Bs} {Γ : Gm} {O : List Own} {x : Addr × Int × Int} {f : Own → List Own} {Φ : Addr → List Own → Prop} [ho : OwnAt O x.1 oSt () f] (hp : (2 ≤ x.2.1 ∧ x.2.1 ≤ 12) ∧ 0 ≤ x.2.2 ∧ x.2.2 ≤ 20000)
    (h : ∀ q c ns ql qh, ChQ c x.2.1 ns → hrOf c = [] → q ∉ B.M → ql ∉ B.M → qh ∉ B.M → Φ q (⟨q, oRec chN chFO, chO c ql qh⟩ :: ⟨ql, oLst rLeg, lgOf c⟩ :: ⟨qh, oLst rHour, hrOf c⟩ :: O)) : SW K B Γ O (sp_chart K) [] (fCons rAdr (fCons rInt (fOne rInt))) x rAdr Φ :=
  sw_gF (ho := ho) (own := fun x : Addr × Int × Int => ⟨x.1, oSt, ()⟩) hp (fun q O' ⟨c, ns, ql, qh, ⟨h1, h2⟩, e⟩ => ⟨chOwn c q ql qh, e, fun hf => h q c ns ql qh h1 h2 (hf ⟨q, _, _⟩ List.mem_cons_self) (hf ⟨ql, _, _⟩ (List.mem_cons_of_mem _ List.mem_cons_self)) (hf ⟨qh, _, _⟩ (List.mem_cons_of_mem _ (List.mem_cons_of_mem _ List.mem_cons_self)))⟩) rfl (fun _ h => by cases h)
/-- a chart of one's own is done -/
theorem s_chDone {X : Cx} {B : Bs} {Γ : Gm} {O : List Own} {D : L2.Ends} {rest : List Stmt} (j : Nat) {c : ChV} {q ql qh : Addr} {f : Option Slot → Gm} [hA : At Γ j rAdr q] [hg : SetG Γ j f] (hq : q ∉ B.M) (hl : ql ∉ B.M) (hh : qh ∉ B.M)
    (h : DS X K B (f (some ⟨rChart, c⟩)) O rest D) : DS X K B Γ (⟨q, oRec chN chFO, chO c ql qh⟩ :: ⟨ql, oLst rLeg, lgOf c⟩ :: ⟨qh, oLst rHour, hrOf c⟩ :: O) rest D := by
  obtain ⟨⟨⟨fx, lg, zo, rw_, ho⟩, hr⟩, cp⟩ := c
  refine s_perm (O' := ⟨ql, oLst rLeg, lg⟩ :: ⟨qh, oLst rHour, hr⟩ :: ⟨q, oRec chN chFO, (((fx, ql, zo, rw_, ho), qh), cp)⟩ :: O) ?_ ?_
  · show List.Perm (α := Own) _ (⟨q, oRec chN chFO, (((fx, ql, zo, rw_, ho), qh), cp)⟩ :: ⟨ql, oLst rLeg, lg⟩ :: ⟨qh, oLst rHour, hr⟩ :: O)
    exact ((List.Perm.cons _ (List.Perm.swap _ _ _)).trans (List.Perm.swap _ _ _))
  refine s_frzIn (p := q) (wo' := oRec chN (fApp (fApp (fCons (rDk rPt) (fCons (rLst rLeg) (fCons (rLst rInt) (fCons (rLst rStr) (fOne (rDk rStr)))))) rAdr) (rDk rInt))) (x' := (((fx, lg, zo, rw_, ho), qh), cp)) hl inferInstance (fun hv ⟨vs, e1, ws, v, e2, ⟨ws2, v2, e3, ⟨u1, us1, e4, r1, u2, us2, e5, r2, r3⟩, hv2⟩, hv3⟩ => ⟨vs, e1, ws, v, e2, ⟨ws2, v2, e3, ⟨u1, us1, e4, r1, u2, us2, e5, ?_, r3⟩, hv2⟩, hv3⟩) ?_
  · rw [show u2 = V.ref ql from r2]
    exact hv
  refine s_frzIn (p := q) (wo' := oRec chN chF) (x' := (((fx, lg, zo, rw_, ho), hr), cp)) hh inferInstance (fun hv ⟨vs, e1, ws, v, e2, ⟨ws2, v2, e3, hf, hv2⟩, hv3⟩ => ⟨vs, e1, ws, v, e2, ⟨ws2, v2, e3, hf, ?_⟩, hv3⟩) ?_
  · rw [show v2 = V.ref qh from hv2]
    exact hv
  exact s_done j hq h
abbrev N_chart : List Str := ["_law_state", "_law_many", "_law_size", "_law_names_here", "_law_fixes", "_law_k", "_law_legs_here", "_law_holds", "_law_leg_here", "_law_runways", "_law_chart_here", "_law_back", "_law_name", "_law_other"]
theorem sc_chart : FnScope N_chart ["_law_state", "_law_many", "_law_size"] (defScope s_chart) := ⟨rfl, rfl, rfl, by decide +kernel, rfl, by decide +kernel, by decide +kernel⟩
theorem ok_chart (N : Nm K mg) (T : Bt mg) : FnOk P w K mg base CX0 4 N.chart.f N.chart.fd ["_law_state", "_law_many", "_law_size"] (sp_chart K) := by
  refine fn_m N.chart.F sc_chart [] fun cdv A outer s G H E x Q fam hp hk => ?_
  obtain ⟨st, m, sz⟩ := x
  obtain ⟨⟨h2, h12⟩, s0, s1⟩ := hp
  dsimp only at h2 h12 s0 s1
  have hk' : ∀ {Γ : Gm} {c : ChV} {ns : List Str} {q ql qh : Addr}, ChQ c m ns → hrOf c = [] → RT K ⟨[], _, G, H, []⟩ Γ (chOwn c q ql qh ++ [⟨st, oSt, ()⟩]) rAdr q _ := fun {Γ c ns q ql qh} e e2 => hk ⟨c, ns, ql, qh, ⟨e, e2⟩, rfl⟩
  clear hk
  have z1 : 100000 ≤ sizeLine := by decide
  have bs : Bd 20 sz := Bd.of (by omega) (by omega)
  have bm : Bd 20 m := Bd.of (by omega) (by omega)
  show DS _ K ⟨[], _, G, H, []⟩ [some ⟨rAdr, st⟩, some ⟨rInt, m⟩, some ⟨rInt, sz⟩, none, none, none, none, none, none, none, none, none, none, none] [⟨st, oSt, ()⟩] (defBody s_chart) _
  refine s_set 3 (d_call N.names (ok_names N T) (da_cons (d_var 0 (da_one (d_var 1 (sw_1 ⟨h2, h12⟩ (fun ns hns => ?_)))))))
  obtain ⟨hns', hso, hnd⟩ := hns
  have hns' : ns.length = m.toNat := hns'
  refine s_set 4 (d_dnewK rPt (fun q4 hq4 => ?_))
  refine s_for (js := [5]) (w_rng1 T.range (d_var 1 ⟨(by omega), ?_⟩))
  refine ⟨Fx, fun i d => i ≤ 12 ∧ d.map (·.1) = (ns.take i).map Sum.inr ∧ FxAt m d ns i, fun _ => [some ⟨rAdr, st⟩, some ⟨rInt, m⟩, some ⟨rInt, sz⟩, some ⟨rLst rStr, ns⟩, some ⟨rAdr, q4⟩, none, none, none, none, none, none, none, none, none], fun d => [⟨q4, oDk rPt, d⟩, ⟨st, oSt, ()⟩], ⟨[], ⟨Nat.zero_le _, rfl, fun k n hk => absurd hk (Nat.not_lt_zero _)⟩, ⟨rfl, rfl, rfl, rfl, rfl, trivial⟩, rfl⟩, fun g i x d hx hd => (g_name 5 ?_), fun d hd => ?_⟩
  · obtain ⟨hi, hd1, hd2⟩ := hd
    obtain ⟨hlt, ex⟩ := rgI_item hx
    have ex : x = (i : Int) := by omega
    subst ex
    have hn := List.getElem?_eq_getElem (l := ns) (i := i) (by omega)
    generalize ns[i] = nk at hn
    have gk := atI_nat' hn
    have bn : ∀ n : Int, 0 ≤ n → n < 2 * sz + 1 → Bd 30 (n - sz) := fun n a b => Bd.of (by omega) (by omega)
    refine s_dput (rc := rPt) (d_tup (da_cons (d_bin (d_call N.draw (ok_draw N T) (da_cons (d_var 0 (da_one (d_bin (d_bin (d_int (d_var 2 (o_mul (by walk_at "sc") (d_int (o_add (sw_1 ⟨by omega, smOk⟩ (fun n1 hn1 => (d_var 2 (o_sub (da_one (d_bin (d_bin (d_var 1 (d_bin (d_call N.draw (ok_draw N T) (da_cons (d_var 0 (da_one (d_bin (d_bin (d_int (d_var 2 (o_mul (by walk_at "sc") (d_int (o_add (sw_1 ⟨by omega, smOk⟩ (fun n2 hn2 => (d_var 2 (o_sub (o_mul (by have b2 := bn n2 hn2.1 hn2.2; exact mulOk) (d_var 5 (o_add (d_var 4 (d_keyS (d_ix (d_var 3 (d_var 5 (i_lst gk ⟨_, _, inferInstance, ?_, ?_⟩)))))))))))))))))))))))))))))))))))))))))))))))
    · have e : d.length = (d.map (·.1)).length := by rw [List.length_map]
      rw [e, hd1, List.length_map, List.length_take]
      omega
    obtain ⟨a0, a1⟩ := hn1
    obtain ⟨b0, b1⟩ := hn2
    dsimp only at a1 b1
    obtain ⟨c0, c1⟩ := ptb h2 h12 (y := n2 - sz) (k := (i : Int)) (by omega) (by omega) (by omega) (by omega)
    refine s_next (putX d (Sum.inr nk) (n1 - sz, m * (n2 - sz) + (i : Int))) ⟨by omega, ?_, ?_⟩ ⟨rfl, rfl, rfl, rfl, rfl, trivial⟩ rfl
    · rw [putX_key, hd1, take_snoc hn, List.map_append]
      · rfl
      · rw [hd1]
        intro z
        obtain ⟨t, ht, et⟩ := List.mem_map.mp z
        have et : t = nk := Sum.inr.inj et
        obtain ⟨j, hj⟩ := List.getElem?_of_mem ht
        have hj2 : j < i := by
          have := (List.getElem?_eq_some_iff.mp hj).1
          rw [List.length_take] at this
          omega
        rw [List.getElem?_take_of_lt hj2] at hj
        exact nd_ne hnd hj hn (by omega) et
    exact hd2.put hnd hn ⟨by dsimp only; omega, by dsimp only; omega, c0, c1⟩ (by
      dsimp only
      rw [Int.add_comm, Int.add_mul_emod_self_left, Int.emod_eq_of_lt (by omega) (by omega)])
  obtain ⟨_, hky, hfx⟩ := hd
  rw [rgI_len, ← hns'] at hfx hky
  rw [List.take_length] at hky
  generalize d = fx at hfx hky
  refine s_set 6 (d_call N.legs (ok_legs N T) (da_cons (d_var 0 (da_one (d_var 3 (sw_1NF ⟨by dsimp only; omega, by dsimp only; omega, hnd⟩ (fun ql lg hlg hql => ?_)))))))
  obtain ⟨hl36, hli⟩ := hlg
  dsimp only at hli
  refine s_set 7 (d_dnewK rStr (fun q7 hq7 => ?_))
  refine s_forO (js := [8]) (w_own (ra := rLeg) (d_var 6 ⟨_, _, inferInstance, ?_⟩))
  refine ⟨List (Key × Str), fun i d => i ≤ lg.length ∧ d.length ≤ i ∧ HoAt lg d, fun _ => [some ⟨rAdr, st⟩, some ⟨rInt, m⟩, some ⟨rInt, sz⟩, some ⟨rLst rStr, ns⟩, some ⟨rAdr, q4⟩, none, some ⟨rAdr, ql⟩, some ⟨rAdr, q7⟩, none, none, none, none, none, none], fun d => [⟨q7, oDk rStr, d⟩, ⟨ql, oLst rLeg, lg⟩, ⟨q4, oDk rPt, fx⟩, ⟨st, oSt, ()⟩], ⟨[], ⟨Nat.zero_le _, Nat.le_refl _, fun n m e => by cases e⟩, ⟨rfl, rfl, rfl, rfl, rfl, rfl, rfl, trivial⟩, rfl⟩, fun _ _ _ => List.mem_cons_of_mem _ List.mem_cons_self, fun g i l d hx hd => (g_name 8 ?_), fun d hd => ?_⟩
  · obtain ⟨hi, hd1, hd3⟩ := hd
    have hlt := (List.getElem?_eq_some_iff.mp hx).1
    refine s_lcFw 11 (js := [13]) (ra := rLeg) (rb := rLeg) (f := fun l : Leg => l) (g := fun o : Leg => decide (o.1 = l.2.1) && decide (o.2.1 = l.1)) [("_law_other", 13)] [13] (fun _ => blkOk_by (N := N_chart) (sc := defScope s_chart) (by decide +kernel)) (w_own (d_var 6 ⟨_, _, inferInstance, rfl, (by omega), fun gg D ys x hx => (g_name 13 (dts_one (dt_then (dt_bool (dp_andP (dt_cmp (d_ix (d_var (ra := rLeg) (x := x) 13 (d_int (i_tup 0 (d_ix (d_var (ra := rLeg) (x := l) 8 (d_int (i_tup 1 (o_eqS ⟨rfl, rfl⟩)))))))))) (fun hb => (dp_and1 (dt_cmp (d_ix (d_var (ra := rLeg) (x := x) 13 (d_int (i_tup 1 (d_ix (d_var (ra := rLeg) (x := l) 8 (d_int (i_tup 0 (o_eqS ⟨rfl, rfl⟩)))))))))))))) ⟨rfl, rfl, fun hb => (d_var 13 ⟨rfl, rfl⟩)⟩))), ?_⟩))
    refine s_if (dt_bool (dp_and (dt_cmp (d_callB T.len bt_len (da_one (d_var 11 (c_lenL (d_int (o_gt ⟨fun hb => (dp_and1 (dt_cmp (d_call N.draw (ok_draw N T) (da_cons (d_var 0 (da_one (d_int (sw_1 ⟨(by walk_at "sc"), (by walk_at "sc")⟩ (fun n hn => (d_int (o_eqI ⟨fun hb2 => ?_, fun hb2 => ?_⟩))))))))))), fun hb => ⟨fun e => Bool.noConfusion e, fun _ => ?_⟩⟩)))))))))
    · have hb := of_decide_eq_true hb
      rw [List.map_id'] at hb
      refine s_dput (rc := rStr) (d_ix (d_var (ra := rLeg) (x := l) 8 (d_int (i_tup 1 (d_var 7 (d_keyS (d_ix (d_var (ra := rLeg) (x := l) 8 (d_int (i_tup 0 ⟨_, _, inferInstance, ?_, ?_⟩))))))))))
      · omega
      exact s_out (s_next (putX d (Sum.inr l.1) l.2.1) ⟨by omega, Nat.le_trans (putX_len _ _ _) (by omega), hd3.put (List.mem_of_getElem? hx) (by omega)⟩ ⟨rfl, rfl, rfl, rfl, rfl, rfl, rfl, trivial⟩ rfl)
    · exact s_out (s_next d ⟨by omega, by omega, hd3⟩ ⟨rfl, rfl, rfl, rfl, rfl, rfl, rfl, trivial⟩ rfl)
    · exact s_out (s_next d ⟨by omega, by omega, hd3⟩ ⟨rfl, rfl, rfl, rfl, rfl, rfl, rfl, trivial⟩ rfl)
  have hho : HoAt lg d := hd.2.2
  clear hd
  generalize d = hs at hho
  refine s_lcO 9 (js := [12]) (ra := rStr) (rb := rStr) [("_law_name", 12)] [12] (fun _ => blkOk_by (N := N_chart) (sc := defScope s_chart) (by decide +kernel)) (w_lst (d_var 3 ⟨Unit, fun i ys _ => ys.length ≤ i, fun _ => [⟨q7, oDk rStr, hs⟩, ⟨ql, oLst rLeg, lg⟩, ⟨q4, oDk rPt, fx⟩, ⟨st, oSt, ()⟩], ⟨(), Nat.le_refl _, rfl⟩, fun g D i x ys d hx hd => (g_name 12 (dts_one (dt_cmp (d_call N.draw (ok_draw N T) (da_cons (d_var 0 (da_one (d_int (sw_1 ⟨(by walk_at "sc"), (by walk_at "sc")⟩ (fun n hn => (d_int (o_eqI ⟨fun hb => (d_var 12 ⟨(), rfl, ?_, ?_⟩), fun hb => ⟨(), rfl, ?_⟩⟩)))))))))))), fun q9 ys d hM hd2 => ?_⟩))
  · have := (List.getElem?_eq_some_iff.mp hx).1
    omega
  · show (ys ++ [x]).length ≤ i + 1
    rw [List.length_append]
    exact Nat.succ_le_succ hd
  · exact Nat.le_succ_of_le hd
  refine s_perm (O' := [⟨q4, oDk rPt, fx⟩, ⟨q7, oDk rStr, hs⟩, ⟨q9, oLst rStr, ys⟩, ⟨ql, oLst rLeg, lg⟩, ⟨st, oSt, ()⟩]) ?_ ?_
  · show List.Perm (α := Own) _ ([⟨q9, oLst rStr, ys⟩, ⟨q7, oDk rStr, hs⟩, ⟨ql, oLst rLeg, lg⟩] ++ ⟨q4, oDk rPt, fx⟩ :: [⟨st, oSt, ()⟩])
    exact (List.perm_middle.trans (List.Perm.cons _ (List.Perm.swap _ _ _))).symm
  refine s_done 4 hq4 ?_
  refine s_done 7 hq7 ?_
  refine s_set 10 (d_disp (ns := chN5) (f := chFO5) chN5_nd (fun i => pps_cons pe_str (WE.pe i) (pps_cons pe_str (WE.pe i) (pps_cons pe_str (WE.pe i) (pps_cons pe_str (WE.pe i) (pps_cons pe_str (WE.pe i) pps_nil))))) fun q hq => dd_cons (d_var 4 (dd_cons (d_var 6 (dd_cons (d_lst (ra := rInt) (da_all0 ⟨(by decide), dd_cons (d_slice (d_var 9 (do_no (do_at (d_int (sl_l (rb := rStr) (dd_one (d_var 7 ⟨_, rfl, ?_⟩))))))))⟩)))))))
  refine s_recNew (rc := rAdr) (d_lstO (ra := rHour) (da_all0 ⟨(by decide), fun qh hqh => d_var 10 ⟨_, _, inferInstance, ?_⟩⟩))
  refine s_recNew (rc := rDk rInt) (d_done (d_dnewK rInt (fun p hp => ⟨_, _, rfl, hp, d_var 10 ⟨_, _, inferInstance, ?_⟩⟩)))
  have hq' : ChQ ((((fx, lg, [], cutL ys none (some 4), hs), []), []) : ChV) m ns := ⟨by omega, by omega, hnd, hso, hky, hfx, hli, by show lg.length ≤ 100; omega, hho⟩
  refine s_perm (O' := [⟨q9, oLst rStr, ys⟩, ⟨q, oRec chN chFO, chO ((((fx, lg, [], cutL ys none (some 4), hs), []), []) : ChV) ql qh⟩, ⟨ql, oLst rLeg, lg⟩, ⟨qh, oLst rHour, []⟩, ⟨st, oSt, ()⟩]) ?_ ?_
  · show List.Perm (α := Own) _ (⟨qh, oLst rHour, []⟩ :: ⟨q, oRec chN chFO, chO ((((fx, lg, [], cutL ys none (some 4), hs), []), []) : ChV) ql qh⟩ :: ⟨q9, oLst rStr, ys⟩ :: ⟨ql, oLst rLeg, lg⟩ :: [⟨st, oSt, ()⟩])
    have p1 : List.Perm (α := Own) (⟨qh, oLst rHour, []⟩ :: ([⟨q, oRec chN chFO, chO ((((fx, lg, [], cutL ys none (some 4), hs), []), []) : ChV) ql qh⟩, ⟨q9, oLst rStr, ys⟩, ⟨ql, oLst rLeg, lg⟩] ++ [⟨st, oSt, ()⟩])) ([⟨q, oRec chN chFO, chO ((((fx, lg, [], cutL ys none (some 4), hs), []), []) : ChV) ql qh⟩, ⟨q9, oLst rStr, ys⟩, ⟨ql, oLst rLeg, lg⟩] ++ ⟨qh, oLst rHour, []⟩ :: [⟨st, oSt, ()⟩]) := List.perm_middle.symm
    exact (p1.trans (List.Perm.swap _ _ _)).symm
  refine s_sub (O' := chOwn ((((fx, lg, [], cutL ys none (some 4), hs), []), []) : ChV) q ql qh ++ [⟨st, oSt, ()⟩]) (List.Sublist.cons _ (List.Sublist.refl _)) (s_ret (d_var 10 (hk' hq' rfl)))
end
end Law


set_option Elab.async false
set_option linter.all false
set_option maxRecDepth 100000
set_option maxHeartbeats 4100000
/-! LwI08: ways along legs, plainly (k08). -/
namespace Sk
theorem rt_sub {K : PySem.W.Frag} {B : Bs} {Γ : Gm} {O O' : List Own} {α : Type} {r : Rp α} {x : α} {D : L2.Ends} (hs : List.Sublist O' O) (h : RT K B Γ O' r x D) : RT K B Γ O r x D := fun v σ G H W => h v σ G H (W.perm (fun w hw => hs.subset hw) fun z => z.sublist (hs.map _))
end Sk
namespace Law
open PySem L2 Evl Sk MP
local macro_rules | `(tactic| walk_at "sc") => `(tactic| first | omega | assumption | (with_reducible exact mulOk) | (with_reducible exact smOk) | (with_reducible exact ⟨by decide, smOk⟩) | decide | (simp only [List.length_cons, List.length_nil]; decide) | exact divOk (by omega))
theorem at_app1 {r : List Str} {x : Str} {k : Nat} (h : k < r.length) : at_ (r ++ [x]) k = at_ r k := by
  unfold at_
  rw [List.getD_eq_getElem?_getD, List.getD_eq_getElem?_getD, List.getElem?_append_left h]
theorem at_app2 {r : List Str} {x : Str} : at_ (r ++ [x]) r.length = x := by
  unfold at_
  rw [List.getD_eq_getElem?_getD, List.getElem?_append_right (Nat.le_refl _), Nat.sub_self]
  rfl
/-- a way along legs -/
structure WkOk (ch : ChV) (r : List Str) : Prop where
  one : 1 ≤ r.length
  fx : ∀ n ∈ r, ∃ p, valX (fxOf ch) (Sum.inr n) = some p ∧ PtOk p
  lg : ∀ k, k + 1 < r.length → ∃ l, lgb (lgOf ch) (at_ r k) (at_ r (k + 1)) = some l
theorem lgb_some {legs : List Leg} {l : Leg} (h : l ∈ legs) : ∃ l', lgb legs l.1 l.2.1 = some l' := by
  unfold lgb
  rw [← Option.isSome_iff_exists, List.find?_isSome]
  exact ⟨l, h, by simp⟩
theorem WkOk.snoc {ch : ChV} {r : List Str} (hc : ChOk ch) (h : WkOk ch r) {l : Leg} (hl : l ∈ lgOf ch) (e : l.1 = at_ r (r.length - 1)) : WkOk ch (r ++ [l.2.1]) where
  one := by rw [List.length_append]; exact Nat.le_add_left _ _
  fx := fun n hn => by
    rcases List.mem_append.mp hn with z | z
    · exact h.fx n z
    · rw [List.mem_singleton.mp z]
      exact (hc.pts l hl).2
  lg := fun k hk => by
    rw [List.length_append] at hk
    have hk : k + 1 < r.length + 1 := hk
    have h1 := h.one
    by_cases e2 : k + 1 < r.length
    · rw [at_app1 (by omega), at_app1 e2]
      exact h.lg k e2
    · have ek : k = r.length - 1 := by omega
      have ek2 : k + 1 = r.length := by omega
      rw [at_app1 (by omega), ek2, at_app2, ek, ← e]
      exact lgb_some hl
theorem RtV.so {ch : ChV} {r : List Str} (hc : ChOk ch) (h : RtV ch r) : ∀ n ∈ r, PyData.strOk n = true := fun n hn => by
  obtain ⟨k, hk⟩ := List.getElem?_of_mem hn
  have hl := (List.getElem?_eq_some_iff.mp hk).1
  have e : n = at_ r k := by
    have := at_get hl
    rw [hk] at this
    exact Option.some.inj this
  have h2 := h.two
  rw [e]
  by_cases z : k + 1 < r.length
  · obtain ⟨l, q⟩ := h.lg k z
    obtain ⟨q1, q2, _⟩ := lgb_spec q
    rw [← q2]
    exact (hc.so l q1).1
  · obtain ⟨l, q⟩ := h.lg (k - 1) (by omega)
    obtain ⟨q1, _, q3⟩ := lgb_spec q
    rw [show k - 1 + 1 = k by omega] at q3
    rw [← q3]
    exact (hc.so l q1).2.1
end Law


set_option Elab.async false
set_option linter.all false
set_option maxRecDepth 100000
set_option maxHeartbeats 4100000
/-! LwS08: small charts of the law (shared by the laws of tubes and radar). -/
namespace Law
open PySem L2 Evl Sk MP
local macro_rules | `(tactic| walk_at "sc") => `(tactic| first | omega | assumption | (with_reducible exact mulOk) | (with_reducible exact smOk) | (with_reducible exact ⟨by decide, smOk⟩) | decide | (simp only [List.length_cons, List.length_nil]; decide) | exact divOk (by omega))
section
variable {P : Program} {w : World} {K : PySem.W.Frag} {mg : Str → Option Value} {base : Heap}
theorem HoAt.more {lg lg' : List Leg} {ho : List (Key × Str)} (h : HoAt lg ho) (s : ∀ l ∈ lg, l ∈ lg') : HoAt lg' ho := fun n m e => by
  obtain ⟨⟨l, hl, a⟩, o, hl2, b⟩ := h n m e
  exact ⟨⟨l, s l hl, a⟩, o, s o hl2, b⟩
theorem ChQ.add {c : ChV} {m : Int} {ns : List Str} (h : ChQ c m ns) (hl : (lgOf c).length ≤ 90) {l : Leg} (h1 : l.1 ∈ ns) (h2 : l.2.1 ∈ ns) (h3 : PyData.strOk l.2.2.1 = true) (h4 : l.1 ≠ l.2.1) (h5 : ((lgOf c).filter fun x => decide (x.1 = l.1)).length < 3) : ChQ (((fxOf c, lgOf c ++ [l], c.1.1.2.2), hrOf c), c.2) m ns where
  l2 := h.l2
  l12 := h.l12
  nd := h.nd
  so := h.so
  ky := h.ky
  fx := h.fx
  li := h.li.snoc h1 h2 h3 h4 h5
  ho := h.ho.more fun l hl => List.mem_append_left _ hl
  ll := by
    show (lgOf c ++ [l]).length ≤ 100
    rw [List.length_append]
    exact Nat.le_trans (Nat.succ_le_succ hl) (by decide)
abbrev sp_small_chart (K : Fg) : Sp := spM K [] (fOne rAdr) (fun _ => True) (fun x => [⟨x, oSt, ()⟩]) rAdr fun x q O' => ∃ c ns m ql qh, (ChQ c m ns ∧ hrOf c = [] ∧ 0 < (lgOf c).length) ∧ O' = chOwn c q ql qh ++ [⟨x, oSt, ()⟩]
theorem sw_small {B : Bs} {Γ : Gm} {O : List Own} {x : Addr} {f : Own → List Own} {Φ : Addr → List Own → Prop} [ho : OwnAt O x oSt () f]
    (h : ∀ q c ns m ql qh, ChQ c m ns → hrOf c = [] → 0 < (lgOf c).length → q ∉ B.M → ql ∉ B.M → qh ∉ B.M → Φ q (⟨q, oRec chN chFO, chO c ql qh⟩ :: ⟨ql, oLst rLeg, lgOf c⟩ :: ⟨qh, oLst rHour, hrOf c⟩ :: O)) : SW K B Γ O (sp_small_chart K) [] (fOne rAdr) x rAdr Φ :=
  sw_gF (ho := ho) (own := fun x : Addr => ⟨x, oSt, ()⟩) trivial (fun q O' ⟨c, ns, m, ql, qh, ⟨h1, h2, h3⟩, e⟩ => ⟨chOwn c q ql qh, e, fun hf => h q c ns m ql qh h1 h2 h3 (hf ⟨q, _, _⟩ List.mem_cons_self) (hf ⟨ql, _, _⟩ (List.mem_cons_of_mem _ List.mem_cons_self)) (hf ⟨qh, _, _⟩ (List.mem_cons_of_mem _ (List.mem_cons_of_mem _ List.mem_cons_self)))⟩) rfl (fun _ h => by cases h)
theorem sc_small_chart : FnScope ["_law_state", "_law_chart_here", "_law_names_here"] ["_law_state"] (defScope s_small_chart) := ⟨rfl, rfl, rfl, by decide +kernel, rfl, by decide +kernel, by decide +kernel⟩
theorem ok_small_chart (N : Nm K mg) (T : Bt mg) : FnOk P w K mg base CX0 5 N.small_chart.f N.small_chart.fd ["_law_state"] (sp_small_chart K) := by
  refine fn_m N.small_chart.F sc_small_chart [] fun cdv A outer s G H E st Q fam hp hk => ?_
  have hk' : ∀ {Γ : Gm} {c : ChV} {m : Int} {ns : List Str} {q ql qh : Addr}, ChQ c m ns → hrOf c = [] → 0 < (lgOf c).length → RT K ⟨[], _, G, H, []⟩ Γ (chOwn c q ql qh ++ [⟨st, oSt, ()⟩]) rAdr q _ := fun {Γ c m ns q ql qh} e e2 e3 => hk ⟨c, ns, m, ql, qh, ⟨e, e2, e3⟩, rfl⟩
  clear hk
  have z1 : 100000 ≤ sizeLine := by decide
  have hc3 : ∀ {c : Int}, c ∈ [(2 : Int), 9, 9, 40] → 0 ≤ c ∧ c ≤ 20000 := fun {c} h => by
    simp only [List.mem_cons, List.not_mem_nil, or_false] at h
    omega
  show DS _ K ⟨[], _, G, H, []⟩ [some ⟨rAdr, st⟩, none, none] [⟨st, oSt, ()⟩] (defBody s_small_chart) _
  refine s_set 1 (d_call N.chart (ok_chart N T) (da_cons (d_var 0 (da_cons (d_bin (d_int (d_call N.draw (ok_draw N T) (da_cons (d_var 0 (da_one (d_int (sw_1 (q := st) ⟨(by walk_at "sc"), (by walk_at "sc")⟩ (fun n hn => (o_add (da_one (d_call N.pick (ok_pick (ra := rInt) N T) (da_cons (d_var 0 (da_one (d_lst (ra := rInt) (da_all (d_int (da_all (d_int (da_all (d_int (da_all (d_int (da_all0 ⟨(by walk_at "sc"), (sw_1 (q := st) ⟨by walk_at "sc", by walk_at "sc"⟩ (fun c hc => (sw_chart ⟨⟨?_, ?_⟩, hc3 hc⟩ (fun q ch ns ql qh hch hh hq hl hh2 => ?_))))⟩)))))))))))))))))))))))))))))
  · obtain ⟨n0, n1⟩ := hn
    dsimp only at n1 ⊢
    omega
  · obtain ⟨n0, n1⟩ := hn
    dsimp only at n1 ⊢
    omega
  clear hc
  dsimp only at hch
  obtain ⟨⟨⟨fx, lg, zo, rw_, hol⟩, hr⟩, cp⟩ := ch
  have hlg : lg.length ≤ 100 := hch.ll
  simp only [chOwn, chO, List.cons_append, List.nil_append]
  refine s_ifP (x := decide ((lg.length : Int) = 0)) (dt_cmp (d_callB T.len bt_len (da_one (d_recV 1 1 rfl chN_nd (c_lenG (d_int (o_eqI ⟨rfl, rfl⟩))))))) (fun hb => ?_) (fun hb => ?_)
  · have hb' := of_decide_eq_true hb
    have h0 : lg = [] := List.length_eq_zero_iff.mp (by omega)
    subst h0
    have l2 := hch.l2
    have l12 := hch.l12
    refine s_set 2 (d_callB T.sorted bt_sorted (da_one (d_recV 1 0 rfl chN_nd (c_sortedD (rb := rPt) (ks := ns) hch.ky (by omega) (fun ys hys _ => ?_)))))
    have hyl : ys.length = ns.length := hys.length_eq
    have hyn : ys.Nodup := hys.nodup_iff.mpr hch.nd
    have g0 : ys[0]? = some ys[0] := List.getElem?_eq_getElem (by omega)
    have g1 : ys[1]? = some ys[1] := List.getElem?_eq_getElem (by omega)
    have m0 : ys[0] ∈ ns := hys.mem_iff.mp (List.getElem_mem (by omega))
    have m1 : ys[1] ∈ ns := hys.mem_iff.mp (List.getElem_mem (by omega))
    have hne : ys[0] ≠ ys[1] := nd_ne hyn g0 g1 (by decide)
    generalize ys[0] = n0 at g0 m0 hne
    generalize ys[1] = n1 at g1 m1 hne
    refine s_expr (d_app (ra := rLeg) (d_recV 1 1 rfl chN_nd ⟨_, _, inferInstance, (d_tup (da_cons (d_ix (d_var 2 (d_int (i_lst (atI_nat' (k := 0) g0) (da_cons (d_ix (d_var 2 (d_int (i_lst (atI_nat' (k := 1) g1) (da_cons (d_str (da_cons (d_int (da_one (d_int ⟨_, _, inferInstance, ?_, ?_⟩)))))))))))))))))⟩))
    · show 0 < sizeLine
      omega
    have h5 := hch.add (Nat.zero_le _) (l := (n0, n1, "N", 0, 600)) m0 m1 (by dsimp only; decide +kernel) hne (show (0 : Nat) < 3 by decide)
    exact s_out (s_ret (d_var 1 (hk' h5 hh (Nat.succ_pos _))))
  · have hb' := of_decide_eq_false hb
    exact s_out (s_ret (d_var 1 (hk' hch hh (by show 0 < lg.length; omega))))
end
end Law


set_option Elab.async false
set_option linter.all false
set_option maxRecDepth 100000
set_option maxHeartbeats 4100000
set_option synthInstance.maxSize 4000
set_option synthInstance.maxHeartbeats 400000
/-! RqA: kinds (k22; is_kind as in k11). -/
namespace Law
open PySem L2 Evl Sk MP
local macro_rules | `(tactic| walk_at "sc") => `(tactic| first | omega | assumption | (with_reducible exact mulOk) | (with_reducible exact smOk) | (with_reducible exact ⟨by decide, smOk⟩) | decide | (simp only [List.length_cons, List.length_nil]; decide) | exact divOk (by omega))
abbrev K5 := Int × Int × Int × Int × Int
abbrev rK5 : Rp K5 := rTup (fCons rInt (fCons rInt (fCons rInt (fCons rInt (fOne rInt)))))
structure KdOk (k : K5) : Prop where
  w : 0 ≤ k.1 ∧ k.1 ≤ 3
  s : 1 ≤ k.2.1 ∧ k.2.1 ≤ 60
  f : k.2.1 ≤ k.2.2.1 ∧ k.2.2.1 ≤ k.2.1 + 8
  l : 1 ≤ k.2.2.2.1 ∧ k.2.2.2.1 ≤ 6
  m : k.2.2.2.1 ≤ k.2.2.2.2 ∧ k.2.2.2.2 ≤ k.2.2.2.1 + 8
def kindV (k : K5) : Bool := (decide (0 ≤ k.1) && decide (k.1 < 4)) && ((decide (1 ≤ k.2.1) && (decide (k.2.1 ≤ k.2.2.1) && decide (k.2.2.1 ≤ 10000))) && (decide (1 ≤ k.2.2.2.1) && (decide (k.2.2.2.1 ≤ k.2.2.2.2) && decide (k.2.2.2.2 ≤ 100))))
section
variable {P : Program} {w : World} {K : PySem.W.Frag} {mg : Str → Option Value} {base : Heap}
abbrev sp_is_kind (K : Fg) : Sp := spF K [] (fOne rK5) (fun _ => True) rBool kindV
abbrev N_is_kind : List Str := ["kind", "wake", "slow", "fast", "least", "most"]
theorem sc_is_kind : FnScope N_is_kind ["kind"] (defScope s_is_kind) := ⟨rfl, rfl, rfl, by decide +kernel, rfl, by decide +kernel, by decide +kernel⟩
theorem ok_is_kind (N : Nm K mg) (T : Bt mg) : FnOk P w K mg base CX0 1 N.is_kind.f N.is_kind.fd ["kind"] (sp_is_kind K) := by
  refine fn_m N.is_kind.F sc_is_kind [] fun cdv A outer s G H E x Q fam hp hk => ?_
  obtain ⟨a, b, c, d, e⟩ := x
  obtain ⟨t1, h1⟩ := T.CLASSES
  obtain ⟨t2, h2⟩ := T.FASTEST
  obtain ⟨t3, h3⟩ := T.STEEPEST
  show DS _ K ⟨[], _, G, H, []⟩ [some ⟨rK5, (a, b, c, d, e)⟩, none, none, none, none, none] [] (defBody s_is_kind) _
  refine s_asg (js := [1, 2, 3, 4, 5]) (ra := rK5) (d_var 0 (g_tup (gs_cons (g_name 1 (gs_cons (g_name 2 (gs_cons (g_name 3 (gs_cons (g_name 4 (gs_one (g_name 5 ?_))))))))))))
  dsimp only
  refine s_ret (d_then (d_andP (d_chainP (d_int (d_var (ra := rInt) (x := a) 1 (o_le ⟨rfl, rfl, fun _ => (d_globI h1 (o_lt ⟨rfl, rfl⟩))⟩)))) (fun _ => (d_andP (d_chain3P (d_int (d_var (ra := rInt) (x := b) 2 (o_le ⟨rfl, rfl, fun _ => (d_var (ra := rInt) (x := c) 3 (o_le ⟨rfl, rfl, fun _ => (d_globI h2 (o_le ⟨rfl, rfl⟩))⟩))⟩)))) (fun _ => (d_one (d_chain3P (d_int (d_var (ra := rInt) (x := d) 4 (o_le ⟨rfl, rfl, fun _ => (d_var (ra := rInt) (x := e) 5 (o_le ⟨rfl, rfl, fun _ => (d_globI h3 (o_le ⟨rfl, rfl⟩))⟩))⟩))))))))) (hk ⟨rfl, rfl⟩))
end
end Law


set_option Elab.async false
set_option linter.all false
set_option maxRecDepth 100000
set_option maxHeartbeats 4100000
/-! LkK: kinds, rules, winds of the law (shared by the laws of tubes). -/
namespace Law
open PySem L2 Evl Sk MP
local macro_rules | `(tactic| walk_at "sc") => `(tactic| first | omega | assumption | (with_reducible exact mulOk) | (with_reducible exact smOk) | (with_reducible exact ⟨by decide, smOk⟩) | decide | (simp only [List.length_cons, List.length_nil]; decide) | exact divOk (by omega))
section
variable {P : Program} {w : World} {K : PySem.W.Frag} {mg : Str → Option Value} {base : Heap}
abbrev sp_kind (K : Fg) : Sp := sp1 K [] (fOne rAdr) (fun _ => True) (fun x => ⟨x, oSt, ()⟩) rK5 fun _ y => KdOk y
theorem sc_kind : FnScope ["_law_state", "_law_slow", "_law_least"] ["_law_state"] (defScope s_kind) := ⟨rfl, rfl, rfl, by decide +kernel, rfl, by decide +kernel, by decide +kernel⟩
theorem ok_kind (N : Nm K mg) (T : Bt mg) : FnOk P w K mg base CX0 3 N.kind.f N.kind.fd ["_law_state"] (sp_kind K) := by
  refine fn_m N.kind.F sc_kind [] fun cdv A outer s G H E st Q fam hp hk => ?_
  have hk' : ∀ {Γ : Gm} {d : K5}, KdOk d → RT K ⟨[], _, G, H, []⟩ Γ [⟨st, oSt, ()⟩] rK5 d _ := fun {Γ d} e => hk ⟨rfl, e⟩
  clear hk
  show DS _ K ⟨[], _, G, H, []⟩ [some ⟨rAdr, st⟩, none, none] [⟨st, oSt, ()⟩] (defBody s_kind) _
  have hc1 : ∀ {c : Int}, c ∈ [(8 : Int), 20, 60] → 8 ≤ c ∧ c ≤ 60 := fun {c} h => by
    simp only [List.mem_cons, List.not_mem_nil, or_false] at h
    omega
  refine s_set 1 (d_bin (d_int (d_call N.draw (ok_draw N T) (da_cons (d_var 0 (da_one (d_call N.pick (ok_pick (ra := rInt) N T) (da_cons (d_var 0 (da_one (d_lst (ra := rInt) (da_all (d_int (da_all (d_int (da_all (d_int (da_all0 ⟨(by walk_at "sc"), (sw_1 ⟨by walk_at "sc", by walk_at "sc"⟩ (fun c hc => (sw_1 ⟨by have := hc1 hc; dsimp only; omega, by have := hc1 hc; exact (Bd.of (k := 10) (x := c) (by omega) (by omega)).mono (by decide) |> fun h => ⟨h.lt⟩⟩ (fun n hn => (o_add ?_)))))⟩))))))))))))))))))
  obtain ⟨c0, c1⟩ := hc1 hc
  obtain ⟨n0, n1⟩ := hn
  dsimp only at n1
  refine s_set 2 (d_bin (d_int (d_call N.draw (ok_draw N T) (da_cons (d_var 0 (da_one (d_int (sw_1 ⟨(by walk_at "sc"), (by walk_at "sc")⟩ (fun n2 hn2 => (o_add ?_))))))))))
  obtain ⟨a0, a1⟩ := hn2
  dsimp only at a1
  refine s_ret (d_tup (da_cons (d_call N.draw (ok_draw N T) (da_cons (d_var 0 (da_one (d_int (sw_1 ⟨(by walk_at "sc"), (by walk_at "sc")⟩ (fun n3 hn3 => (da_cons (d_var 1 (da_cons (d_bin (d_var 1 (d_call N.draw (ok_draw N T) (da_cons (d_var 0 (da_one (d_int (sw_1 ⟨(by walk_at "sc"), (by walk_at "sc")⟩ (fun n4 hn4 => (o_add (da_cons (d_var 2 (da_one (d_bin (d_var 2 (d_call N.draw (ok_draw N T) (da_cons (d_var 0 (da_one (d_int (sw_1 ⟨(by walk_at "sc"), (by walk_at "sc")⟩ (fun n5 hn5 => (o_add (hk' ?_))))))))))))))))))))))))))))))))))))
  obtain ⟨b0, b1⟩ := hn3
  obtain ⟨d0, d1⟩ := hn4
  obtain ⟨e0, e1⟩ := hn5
  dsimp only at b1 d1 e1
  exact ⟨by dsimp only; omega, by dsimp only; omega, by dsimp only; omega, by dsimp only; omega, by dsimp only; omega⟩
end
end Law


set_option Elab.async false
set_option linter.all false
set_option maxRecDepth 100000
set_option maxHeartbeats 4100000
set_option synthInstance.maxSize 4000
set_option synthInstance.maxHeartbeats 400000
/-! RtB: routes checked, their lengths, loops (k08). -/
namespace Law
open PySem L2 Evl Sk MP
local macro_rules | `(tactic| walk_at "sc") => `(tactic| first | omega | assumption | (with_reducible exact mulOk) | (with_reducible exact smOk) | (with_reducible exact ⟨by decide, smOk⟩) | decide | (simp only [List.length_cons, List.length_nil]; decide) | exact divOk (by omega))
abbrev rRt : Rp (List Str) := rTpv rStr
abbrev rCI : Rp (Str × Int) := rTup (fCons rStr (fOne rInt))
abbrev rE3 : Rp (Str × Str × Int) := rTup (fCons rStr (fCons rStr (fOne rInt)))
abbrev rLp : Rp (List Str ⊕ (Str × Str × Int)) := rSum rRt rE3
abbrev ReF (c : Str) (t : Int) : List (Str × V) := [("index", .int t), ("code", .str c)]
theorem re_msg {c : Str} {t : Int} {k : Nat} (hc : (reprText c).length ≤ 100000) (ht : Bd k t) (hk : k ≤ 1900) : ∀ v ∈ [V.str c, V.int t], MsgOk v := fun v hv => by
  rcases List.mem_cons.mp hv with z | z
  · rw [z]
    exact .inl ⟨c, rfl, hc⟩
  · rw [List.mem_singleton.mp z]
    exact msg_int ht hk
theorem xt_in {K : PySem.W.Frag} {B : Bs} {Γ : Gm} {O : List Own} {C : Addr} {fl : List (Str × V)} {W : WX} {g : Hp} (h : XT K B Γ O C fl W) : XT K (B.push g) Γ O C fl W := fun d σ G H Ww => h d σ G H Ww.unbase
def noLeg (legs : List Leg) (r : List Str) (k : Nat) : Bool := (lgb legs (at_ r k) (at_ r (k + 1))).isNone
def flawV (legs : List Leg) (r : List Str) : Option (Str × Int) :=
  if 2 ≤ r.length ∧ r.length ≤ 16 then ((List.range (r.length - 1)).find? (noLeg legs r)).map fun k : Nat => (("leg" : Str), (k : Int)) else some ("size", 0)
def hasHold (ho : List (Key × Str)) (r : List Str) (k : Nat) : Bool := (valX ho (Sum.inr (at_ r k))).isSome
def loopV (ho : List (Key × Str)) (r : List Str) (n : Int) : List Str ⊕ (Str × Str × Int) :=
  if n = 0 then .inl r else match (List.range (r.length - 1)).find? (hasHold ho r) with
    | none => .inr ("error", "hold", 0)
    | some k => if (r.length : Int) + 2 * n > 16 then .inr ("error", "size", 0) else .inl (r.take (k + 1) ++ (List.replicate n.toNat [(valX ho (Sum.inr (at_ r k))).getD "", at_ r k]).flatten ++ r.drop (k + 1))
theorem rfind_some {n : Nat} {p : Nat → Bool} {i : Nat} (h : ∀ j, j < i → p j = false) (hi : i < n) (hp : p i = true) : (List.range n).find? p = some i := by
  rw [List.find?_range_eq_some]
  exact ⟨hp, List.mem_range.mpr hi, fun j hj => by rw [h j hj]; rfl⟩
theorem rfind_none {n : Nat} {p : Nat → Bool} (h : ∀ j, j < n → p j = false) : (List.range n).find? p = none := by
  rw [List.find?_range_eq_none]
  exact fun j hj => by rw [h j hj]; rfl
theorem flaw_size {legs : List Leg} {r : List Str} (h : ¬ (2 ≤ r.length ∧ r.length ≤ 16)) : flawV legs r = some (("size" : Str), 0) := if_neg h
theorem flaw_leg {legs : List Leg} {r : List Str} {i : Nat} (h0 : 2 ≤ r.length ∧ r.length ≤ 16) (h : ∀ j, j < i → noLeg legs r j = false) (hi : i < r.length - 1) (hp : noLeg legs r i = true) : flawV legs r = some (("leg" : Str), (i : Int)) := by
  unfold flawV
  rw [if_pos h0, rfind_some h hi hp]
  rfl
theorem flaw_no {legs : List Leg} {r : List Str} (h0 : 2 ≤ r.length ∧ r.length ≤ 16) (h : ∀ j, j < r.length - 1 → noLeg legs r j = false) : flawV legs r = none := by
  unfold flawV
  rw [if_pos h0, rfind_none h]
  rfl
theorem below_snoc {p : Nat → Bool} {i : Nat} (h : ∀ j, j < i → p j = false) (hp : p i = false) : ∀ j, j < i + 1 → p j = false := fun j hj => by
  by_cases e : j = i
  · rw [e]
    exact hp
  · exact h j (by omega)
theorem cut_to {α : Type} (xs : List α) (k : Nat) (h : k ≤ xs.length) : cutL xs none (some (k : Int)) = xs.take k := by
  unfold cutL
  have e1 : HT.sIx xs.length xs.length (some (k : Int)) = k := by
    show (if (k : Int) < 0 then ((k : Int) + (xs.length : Int)).toNat else min (k : Int).toNat xs.length) = _
    rw [if_neg (by omega)]
    omega
  rw [e1]
  show (xs.drop 0).take (k - 0) = _
  rw [List.drop_zero, Nat.sub_zero]
theorem cut_last {α : Type} (xs : List α) (h : 1 ≤ xs.length) : cutL xs none (some (-1)) = xs.take (xs.length - 1) := by
  unfold cutL
  have e1 : HT.sIx xs.length xs.length (some (-1)) = xs.length - 1 := by
    show (if (-1 : Int) < 0 then ((-1 : Int) + (xs.length : Int)).toNat else min (-1 : Int).toNat xs.length) = _
    rw [if_pos (by decide)]
    omega
  rw [e1]
  show (xs.drop 0).take (xs.length - 1 - 0) = _
  rw [List.drop_zero, Nat.sub_zero]
section
variable {P : Program} {w : World} {K : PySem.W.Frag} {mg : Str → Option Value} {base : Heap}
end
end Law


set_option Elab.async false
set_option linter.all false
set_option maxRecDepth 100000
set_option maxHeartbeats 4100000
set_option synthInstance.maxSize 4000
set_option synthInstance.maxHeartbeats 400000
/-! RtC: lengths of routes, loops (k08). -/
namespace Law
open PySem L2 Evl Sk MP
local macro_rules | `(tactic| walk_at "sc") => `(tactic| first | omega | assumption | (with_reducible exact mulOk) | (with_reducible exact smOk) | (with_reducible exact ⟨by decide, smOk⟩) | decide | (simp only [List.length_cons, List.length_nil]; decide) | exact divOk (by omega))
abbrev lnP (fx : Fx) (p : Str × Str) : Int := ln fx p.1 p.2
theorem nw_from {n k : Nat} (hk : 1 ≤ k) (hn : k ≤ n) : ¬ (HT.sIx n 0 (some (k : Int)) = 0 ∧ HT.sIx n n none = n) := fun z => by
  have e : (if (k : Int) < 0 then ((k : Int) + (n : Int)).toNat else min (k : Int).toNat n) = 0 := z.1
  rw [if_neg (by omega)] at e
  omega
theorem nw_to {n k : Nat} (hk : k < n) : ¬ (HT.sIx n 0 none = 0 ∧ HT.sIx n n (some (k : Int)) = n) := fun z => by
  have e : (if (k : Int) < 0 then ((k : Int) + (n : Int)).toNat else min (k : Int).toNat n) = n := z.2
  rw [if_neg (by omega)] at e
  omega
theorem nw_last {n : Nat} (hn : 1 ≤ n) : ¬ (HT.sIx n 0 none = 0 ∧ HT.sIx n n (some (-1)) = n) := fun z => by
  have e : (if (-1 : Int) < 0 then ((-1 : Int) + (n : Int)).toNat else min (-1 : Int).toNat n) = n := z.2
  rw [if_pos (by decide)] at e
  omega
theorem loop_0 {ho : List (Key × Str)} {r : List Str} : loopV ho r 0 = .inl r := if_pos rfl
theorem loop_no {ho : List (Key × Str)} {r : List Str} {n : Int} (hn : n ≠ 0) (h : ∀ j, j < r.length - 1 → hasHold ho r j = false) : loopV ho r n = .inr ("error", "hold", 0) := by
  unfold loopV
  rw [if_neg hn, rfind_none h]
theorem loop_big {ho : List (Key × Str)} {r : List Str} {n : Int} {i : Nat} (hn : n ≠ 0) (h : ∀ j, j < i → hasHold ho r j = false) (hi : i < r.length - 1) (hp : hasHold ho r i = true) (hb : (r.length : Int) + 2 * n > 16) : loopV ho r n = .inr ("error", "size", 0) := by
  unfold loopV
  rw [if_neg hn, rfind_some h hi hp]
  dsimp only
  rw [if_pos hb]
theorem loop_ok {ho : List (Key × Str)} {r : List Str} {n : Int} {i : Nat} {m : Str} (hn : n ≠ 0) (h : ∀ j, j < i → hasHold ho r j = false) (hi : i < r.length - 1) (hp : valX ho (Sum.inr (at_ r i)) = some m) (hb : ¬ (r.length : Int) + 2 * n > 16) : loopV ho r n = .inl (r.take (i + 1) ++ (List.replicate n.toNat [m, at_ r i]).flatten ++ r.drop (i + 1)) := by
  unfold loopV
  rw [if_neg hn, rfind_some h hi (by unfold hasHold; rw [hp]; rfl)]
  dsimp only
  rw [if_neg hb, hp]
  rfl
theorem rep_ne {n : Int} {a b : Str} (h : 1 ≤ n) : (List.replicate n.toNat [a, b]).flatten ≠ [] := by
  obtain ⟨m, hm⟩ : ∃ m : Nat, n.toNat = m + 1 := ⟨n.toNat - 1, by omega⟩
  rw [hm, List.replicate_succ, List.flatten_cons]
  exact fun z => by cases z
theorem rep_len {n : Int} {a b : Str} : (List.replicate n.toNat [a, b]).flatten.length = 2 * n.toNat := by
  generalize n.toNat = m
  induction m with
  | zero => rfl
  | succ m ih =>
    rw [List.replicate_succ, List.flatten_cons, List.length_append, ih]
    show 2 + 2 * m = _
    omega
section
variable {P : Program} {w : World} {K : PySem.W.Frag} {mg : Str → Option Value} {base : Heap}
abbrev sp_route_length (T : List Addr) (K : Fg) : Sp := spF K T (fCons rChart (fOne rRt)) (fun x => RtV x.1 x.2) rInt fun x => sumO (lnP (fxOf x.1)) (x.2.zip (x.2.drop 1))
abbrev N_route_length : List Str := ["chart", "route", "start", "end"]
theorem sc_route_length : FnScope N_route_length ["chart", "route"] (defScope s_route_length) := ⟨rfl, rfl, rfl, by decide +kernel, rfl, by decide +kernel, by decide +kernel⟩
theorem ok_route_length (N : Nm K mg) (T : Bt mg) (Y : Tb0 N base) : FnOk P w K mg base CX0 4 N.route_length.f N.route_length.fd ["chart", "route"] (sp_route_length (tsOf N) K) := by
  refine fn_g N.route_length.F N.route_lengthT.hc sc_route_length (tsOf N) fun A outer s G H E x Q fam hp hk => ?_
  obtain ⟨ch, r⟩ := x
  have hr : RtV ch r := hp
  have h2 := hr.two
  have hk' : ∀ {Γ : Gm} {y : Int}, y = sumO (lnP (fxOf ch)) (r.zip (r.drop 1)) → RT K ⟨tsOf N, _, G, H, []⟩ Γ [] rInt y _ := fun {Γ y} e => hk ⟨rfl, e⟩
  clear hk
  show DS _ K ⟨tsOf N, _, G, H, []⟩ [some ⟨rChart, ch⟩, some ⟨rRt, r⟩, none, none] [] (defBody s_route_length) _
  refine s_ret (d_gxSum (js := [2, 3]) (ra := rTup (fCons rStr (fOne rStr))) (f := lnP (fxOf ch)) [("start", 2), ("end", 3)] [2, 3] N.route_lengthT.P0 (by simp) (by exact tabF Y.route_length) (fun _ => gxOk_by (N := N_route_length) (sc := defScope s_route_length) (by decide +kernel)) T.sum (w_zipT (ra := rStr) (rb := rStr) T.zip (d_var 1 (d_slice (d_var 1 (do_at (d_int (do_no (sl_t (nw_from (k := 1) (Nat.le_refl _) (by omega)) ⟨rfl, fun gg D ys z hz => ?_, hk' ?_⟩)))))))))
  · obtain ⟨i, hi⟩ := List.getElem?_of_mem hz
    rw [show cutL r (some 1) none = r.drop 1 from cut_from r 1 (by omega)] at hi
    obtain ⟨hlt, ez⟩ := pairs_get hi
    subst ez
    refine g_tup (gs_cons (g_name 2 (gs_one (g_name 3 ?_))))
    refine d_call N.leg_length (ok_leg_length N T) (da_cons (d_var 0 (da_cons (d_var (ra := rStr) (x := at_ r i) 2 (da_one (d_var (ra := rStr) (x := at_ r (i + 1)) 3 (sw_f ⟨hr.fx _ (at_mem (by omega)), hr.fx _ (at_mem hlt)⟩ ⟨rfl, rfl⟩)))))))
  · rw [show cutL r (some 1) none = r.drop 1 from cut_from r 1 (by omega)]
abbrev sp_with_loops (E : Addr) (K : Fg) : Sp := sp0X K [] (fCons rChart (fCons rRt (fOne rInt))) (fun x => (2 ≤ x.2.1.length ∧ x.2.1.length ≤ 16) ∧ 0 ≤ x.2.2 ∧ x.2.2 ≤ 10) rRt (fun x y => loopV (hoOf x.1) x.2.1 x.2.2 = .inl y) fun x C fl => C = E ∧ ∃ c, fl = ReF c 0 ∧ loopV (hoOf x.1) x.2.1 x.2.2 = .inr ("error", c, 0)
abbrev N_with_loops : List Str := ["chart", "route", "loops", "index", "name", "loop"]
theorem sc_with_loops : FnScope N_with_loops ["chart", "route", "loops"] (defScope s_with_loops) := ⟨rfl, rfl, rfl, by decide +kernel, rfl, by decide +kernel, by decide +kernel⟩
theorem ok_with_loops (N : Nm K mg) (T : Bt mg) (hP : P.main = pM) : FnOk P w K mg base (L2.CX P w) 3 N.with_loops.f N.with_loops.fd ["chart", "route", "loops"] (sp_with_loops N.cRouteError K) := by
  refine fn_x N.with_loops.F sc_with_loops [] fun cdv A outer s G H E x Q fam hp tk hpo hk hkx => ?_
  obtain ⟨ch, r, n⟩ := x
  obtain ⟨⟨h2, h16⟩, n0, n10⟩ := hp
  dsimp only at h2 h16 n0 n10
  have hk' : ∀ {Γ : Gm} {y : List Str}, loopV (hoOf ch) r n = .inl y → RT K ⟨[], _, G, H, []⟩ Γ [] rRt y _ := fun {Γ y} e => hk ⟨rfl, e⟩
  have hx' : ∀ {Γ : Gm} {c : Str}, loopV (hoOf ch) r n = .inr ("error", c, 0) → XT K ⟨[], _, G, H, []⟩ Γ [] N.cRouteError (ReF c 0) _ := fun {Γ c} e => hkx ⟨rfl, rfl, c, rfl, e⟩
  clear hk hkx
  obtain ⟨t2, hM⟩ := T.MOST_NAMES
  have z1 : 100000 ≤ sizeLine := by decide
  have bn : Bd 10 n := Bd.of (by omega) (by omega)
  show DS _ K ⟨[], _, G, H, []⟩ [some ⟨rChart, ch⟩, some ⟨rRt, r⟩, some ⟨rInt, n⟩, none, none, none] [] (defBody s_with_loops) _
  refine s_ifP (dt_cmp (d_var 2 (d_int (o_eqI ⟨rfl, rfl⟩)))) (fun hb => ?_) (fun hb => ?_)
  · have hb := of_decide_eq_true hb
    subst hb
    exact s_ret (d_var 1 (hk' loop_0))
  have hn := of_decide_eq_false hb
  refine s_out (s_for (js := [3, 4]) (w_enumT (ra := rStr) T.enumerate (d_slice (d_var 1 (do_no (do_at (d_un (d_int (u_neg (sl_t (nw_last (by omega)) ?_))))))))))
  rw [show cutL r none (some (-1)) = r.take (r.length - 1) from cut_last r (by omega)]
  refine ⟨Unit, fun i _ => ∀ j, j < i → hasHold (hoOf ch) r j = false, fun _ => [some ⟨rChart, ch⟩, some ⟨rRt, r⟩, some ⟨rInt, n⟩, none, none, none], fun _ => [], ⟨(), fun j h => absurd h (Nat.not_lt_zero _), ⟨rfl, rfl, rfl, trivial⟩, rfl⟩, fun g i x d hx hd => ?_, fun d hd => ?_⟩
  · obtain ⟨nm, hnm, ex⟩ := enm_get.mp hx
    subst ex
    have hlt := (List.getElem?_eq_some_iff.mp hnm).1
    rw [List.length_take] at hlt
    rw [List.getElem?_take_of_lt (by omega), at_get (by omega)] at hnm
    have enm' := Option.some.inj hnm
    subst enm'
    refine g_tup (gs_cons (g_name 3 (gs_one (g_name 4 ?_))))
    dsimp only
    refine s_ifP (x := hasHold (hoOf ch) r i) (dt_inK (d_keyS (d_var (ra := rStr) (x := at_ r i) 4 (d_recP 0 4 rfl chN_nd ⟨_, rStr, hoOf ch, inferInstance, rfl, rfl⟩)))) (fun hb => ?_) (fun hb => ?_)
    · refine s_ifP (x := decide ((r.length : Int) + 2 * n > 16)) (dt_cmp (d_bin (d_callB T.len bt_len (da_one (d_var 1 (c_lenT (d_bin (d_int (d_var 2 (o_mul (by walk_at "sc") (o_add (d_globI hM (o_gt ⟨rfl, rfl⟩))))))))))))) (fun hb2 => ?_) (fun hb2 => ?_)
      · refine s_raise tk N.xRouteError (ini_RouteError N hP) (da_cons (d_str (da_one (d_int ⟨⟨rfl, by decide⟩, re_msg (k := 10) (c := "size") (t := 0) (by decide +kernel) (Bd.of (by decide) (by decide)) (by decide), xt_in (hx' (loop_big hn hd (by omega) hb (of_decide_eq_true hb2)))⟩))))
      obtain ⟨m, hm⟩ := Option.isSome_iff_exists.mp hb
      have hb2 := of_decide_eq_false hb2
      have e1 : cutL r none (some ((i : Int) + 1)) = r.take (i + 1) := cut_to r (i + 1) (by omega)
      have e2 : cutL r (some ((i : Int) + 1)) none = r.drop (i + 1) := cut_from r (i + 1) (by omega)
      refine s_out (s_set 5 (d_tpv (ra := rStr) (da_all (d_dk (rc := rStr) (d_recP 0 4 rfl chN_nd (d_keyS (d_var (ra := rStr) (x := at_ r i) 4 ⟨_, m, inferInstance, hm, (da_all (d_var (ra := rStr) (x := at_ r i) 4 (da_all0 ⟨(by walk_at "sc"), ?_⟩)))⟩)))))))
      have hA : cutL r none (some ((i : Int) + 1)) ≠ [] := fun z => by
        rw [e1] at z
        have := congrArg List.length z
        rw [List.length_take] at this
        have this : min (i + 1) r.length = 0 := this
        omega
      have hB : (List.replicate n.toNat [m, at_ r i]).flatten ≠ [] := rep_ne (by omega)
      have hC : cutL r (some ((i : Int) + 1)) none ≠ [] := fun z => by
        rw [e2] at z
        have := congrArg List.length z
        rw [List.length_drop] at this
        have this : r.length - (i + 1) = 0 := this
        omega
      have hl1 : (cutL r none (some ((i : Int) + 1))).length + (List.replicate n.toNat [m, at_ r i]).flatten.length ≤ sizeLine := by
        rw [e1, List.length_take, rep_len]
        omega
      have hl2 : (cutL r none (some ((i : Int) + 1)) ++ (List.replicate n.toNat [m, at_ r i]).flatten).length + (cutL r (some ((i : Int) + 1)) none).length ≤ sizeLine := by
        rw [e1, e2, List.length_append, List.length_take, rep_len, List.length_drop]
        omega
      refine s_ret (d_bin (d_bin (d_slice (d_var 1 (do_no (do_at (d_bin (d_var 3 (d_int (o_add (sl_t (nw_to (k := i + 1) (by omega)) (d_bin (d_var (ra := rTpv rStr) (x := [m, at_ r i]) 5 (d_var 2 (o_mulT (by simp) (by omega) (by omega) (by walk_at "sc") (o_catT hA hB hl1 (d_slice (d_var 1 (do_at (d_bin (d_var 3 (d_int (o_add (do_no (sl_t (nw_from (k := i + 1) (by omega) (by omega)) (o_catT (fun z => hB (List.append_eq_nil_iff.mp z).2) hC hl2 (rt_in (hk' ?_))))))))))))))))))))))))))))
      rw [e1, e2]
      exact loop_ok hn hd (by omega) hm hb2
    · exact s_out (s_next () (below_snoc hd hb) ⟨rfl, rfl, rfl, trivial⟩ rfl)
  · rw [enm_len, List.length_take] at hd
    refine s_raise tk N.xRouteError (ini_RouteError N hP) (da_cons (d_str (da_one (d_int ⟨⟨rfl, by decide⟩, re_msg (k := 10) (c := "hold") (t := 0) (by decide +kernel) (Bd.of (by decide) (by decide)) (by decide), hx' (loop_no hn fun j hj => hd j (by omega))⟩))))
end
end Law


set_option Elab.async false
set_option linter.all false
set_option maxRecDepth 100000
set_option maxHeartbeats 4100000
set_option synthInstance.maxSize 4000
set_option synthInstance.maxHeartbeats 400000
/-! RtD: the law's own legs, ways, flaws, loops (k08). -/
namespace Law
open PySem L2 Evl Sk MP
local macro_rules | `(tactic| walk_at "sc") => `(tactic| first | omega | assumption | (with_reducible exact mulOk) | (with_reducible exact smOk) | (with_reducible exact ⟨by decide, smOk⟩) | decide | (simp only [List.length_cons, List.length_nil]; decide) | exact divOk (by omega))
theorem head_find {α : Type} {l : List α} {p : α → Bool} {x : α} (h : l.find? p = some x) : (l.filter p)[0]? = some x := by
  rw [← List.head?_eq_getElem?, List.head?_filter]
  exact h
/-- a way, right or not -/
structure WyOk (y : List Str) : Prop where
  so : ∀ n ∈ y, PyData.strOk n = true
  len : y.length ≤ 1000
section
variable {P : Program} {w : World} {K : PySem.W.Frag} {mg : Str → Option Value} {base : Heap}
abbrev ll1 (L : List (List Key × Int)) (r : List Str) (k : Int) : Int := (valX L (lkey (at_ r k.toNat) (at_ r (k.toNat + 1)))).getD 0
abbrev sp_law_route_length (K : Fg) : Sp := spF K [] (fCons (rDt rInt) (fOne rRt)) (fun x => (2 ≤ x.2.length ∧ x.2.length ≤ 1000) ∧ ∀ k, k + 1 < x.2.length → ∃ z, valX x.1 (lkey (at_ x.2 k) (at_ x.2 (k + 1))) = some z) rInt fun x => ((rgI 0 1 (x.2.length - 1)).map (ll1 x.1 x.2)).sum
abbrev N_law_route_length : List Str := ["_law_lengths_here", "_law_route", "_law_k"]
theorem sc_law_route_length : FnScope N_law_route_length ["_law_lengths_here", "_law_route"] (defScope s_law_route_length) := ⟨rfl, rfl, rfl, by decide +kernel, rfl, by decide +kernel, by decide +kernel⟩
theorem ok_law_route_length (N : Nm K mg) (T : Bt mg) : FnOk P w K mg base CX0 1 N.law_route_length.f N.law_route_length.fd ["_law_lengths_here", "_law_route"] (sp_law_route_length K) := by
  refine fn_m N.law_route_length.F sc_law_route_length [] fun cdv A outer s G H E x Q fam hp hk => ?_
  obtain ⟨L, r⟩ := x
  obtain ⟨⟨h2, h1000⟩, hv⟩ := hp
  dsimp only at h2 h1000 hv
  have hk' : ∀ {Γ : Gm} {y : Int}, y = ((rgI 0 1 (r.length - 1)).map (ll1 L r)).sum → RT K ⟨[], _, G, H, []⟩ Γ [] rInt y _ := fun {Γ y} e => hk ⟨rfl, e⟩
  clear hk
  have z1 : 100000 ≤ sizeLine := by decide
  have en : ((r.length : Int) - 1).toNat = r.length - 1 := by omega
  show DS _ K ⟨[], _, G, H, []⟩ [some ⟨rDt rInt, L⟩, some ⟨rRt, r⟩, none] [] (defBody s_law_route_length) _
  refine s_ret (d_callB T.sum bt_sum (da_one (d_lcP (js := [2]) (ra := rInt) (rb := rInt) (f := ll1 L r) [("_law_k", 2)] [2] (fun _ => blkOk_by (N := N_law_route_length) (sc := defScope s_law_route_length) (by decide +kernel)) (w_rng1 T.range (d_bin (d_callB T.len bt_len (da_one (d_var 1 (c_lenT (d_int (o_sub ⟨(by omega), ⟨rfl, (by rw [rgI_len]; omega), fun gg D ys x hx => (g_name 2 ?_), c_sumL (hk' ?_)⟩⟩)))))))))))
  · obtain ⟨i, hi⟩ := List.getElem?_of_mem hx
    obtain ⟨hlt, ex⟩ := rgI_item hi
    have ex : x = (i : Int) := by omega
    subst ex
    obtain ⟨z, hz⟩ := hv i (by omega)
    have g2 : atI r (i : Int) = some (at_ r i) := atI_nat' (at_get (by omega))
    have g3 : atI r ((i : Int) + 1) = some (at_ r (i + 1)) := atI_nat' (k := i + 1) (at_get (by omega))
    refine d_dt (rc := rInt) (d_var 0 (d_tupK (da_all (d_keyS (d_ix (d_var 1 (d_var (ra := rInt) (x := (i : Int)) 2 (i_tpv g2 (da_all (d_keyS (d_ix (d_var 1 (d_bin (d_var (ra := rInt) (x := (i : Int)) 2 (d_int (o_add (i_tpv g3 (da_all0 ⟨(by walk_at "sc"), ⟨_, z, inferInstance, hz, ⟨?_, rfl⟩⟩⟩))))))))))))))))))
    show z = (valX L (lkey (at_ r (i : Int).toNat) (at_ r ((i : Int).toNat + 1)))).getD 0
    rw [Int.toNat_natCast, hz]
    rfl
  · rw [en]
end
end Law


set_option Elab.async false
set_option linter.all false
set_option maxRecDepth 100000
set_option maxHeartbeats 1500000
set_option synthInstance.maxSize 4000
set_option synthInstance.maxHeartbeats 400000
/-! RqB: names (k22; shared by k05, k37 and the centre's laws). -/
namespace Law
open PySem L2 Evl Sk MP
local macro_rules | `(tactic| walk_at "sc") => `(tactic| first | omega | assumption | trivial | (with_reducible exact mulOk) | (with_reducible exact smOk) | (with_reducible exact ⟨by decide, smOk⟩) | (with_reducible exact ⟨by omega, smOk⟩) | decide | rfl | (simp only [List.length_cons, List.length_nil]; decide) | exact divOk (by omega))
abbrev capS : Str := "ABCDEFGHIJKLMNOPQRSTUVWXYZ"
abbrev nchS : Str := "ABCDEFGHIJKLMNOPQRSTUVWXYZ0123456789"
def fstC (x : Str) : Nat := x.cps.toList.getD 0 0
def sgIn (z x : Str) : Bool := decide (fstC x ∈ z.cps.toList)
def nmV (x : Str) : Bool := (decide ((1 : Int) ≤ (x.length : Int)) && decide ((x.length : Int) ≤ 5)) && (sgIn capS x && (sgn x).all (sgIn nchS))
theorem fst_get {x : Str} (h : 1 ≤ x.length) : atI x.cps.toList 0 = some (fstC x) := by
  have hl : 0 < x.cps.toList.length := by rw [Array.length_toList]; exact h
  refine atI_nat' (k := 0) ?_
  unfold fstC
  rw [List.getD_eq_getElem?_getD, List.getElem?_eq_getElem hl]
  rfl
theorem sgn_one {x y : Str} (h : y ∈ sgn x) : ∃ c, y = (⟨#[c]⟩ : Str) := by
  obtain ⟨c, _, e⟩ := List.mem_map.mp h
  exact ⟨c, e.symm⟩
section
variable {P : Program} {w : World} {K : PySem.W.Frag} {mg : Str → Option Value} {base : Heap}
theorem d_globS {ι : Type} {F : ι → Cx} {B : Bs} {Γ : Gm} {O : List Own} {k : Nat} {n : Str} {pos : Pos} [fam : Fam F P w K mg base k] {x : Str} {Φ : Str → List Own → Prop} (hm : ∃ t, mg n = some (.str x t)) (kk : Φ x O) (hg : ∀ j, Gl (F j) n := by intro _; rfl) (hd : (n == ("__debug__" : Str)) = false := by decide) : DW F K B Γ O (.Name n pos) rStr Φ := by
  obtain ⟨t, h⟩ := hm
  exact d_glob (v := V.str x) h ⟨t, rfl⟩ (fun _ => rfl) kk hg hd
abbrev sp_is_name (T : List Addr) (K : Fg) : Sp := spF K T (fOne rStr) (fun x => x.length ≤ 1000) rBool nmV
abbrev N_is_name : List Str := ["thing", "character"]
theorem sc_is_name : FnScope N_is_name ["thing"] (defScope s_is_name) := ⟨rfl, rfl, rfl, by decide +kernel, rfl, by decide +kernel, by decide +kernel⟩
theorem ok_is_name (N : Nm K mg) (T : Bt mg) (Y : Tb0 N base) : FnOk P w K mg base CX0 2 N.is_name.f N.is_name.fd ["thing"] (sp_is_name (tsOf N) K) := by
  refine fn_g N.is_name.F N.is_nameT.hc sc_is_name (tsOf N) fun A outer s G H E x Q fam hp hk => ?_
  have hp : x.length ≤ 1000 := hp
  have z1 : 100000 ≤ sizeLine := by decide
  obtain ⟨t1, hL⟩ := T.LONGEST_NAME
  have hk' : ∀ {Γ : Gm} {y : Bool}, nmV x = y → RT K ⟨tsOf N, _, G, H, []⟩ Γ [] rBool y _ := fun {Γ y} e => hk ⟨rfl, e.symm⟩
  clear hk
  show DS _ K ⟨tsOf N, _, G, H, []⟩ [some ⟨rStr, x⟩, none] [] (defBody s_is_name) _
  refine s_ifP (x := !(decide ((1 : Int) ≤ (x.length : Int)) && decide ((x.length : Int) ≤ 5)) || !sgIn capS x) (dt_bool (dp_orP (x := !(decide ((1 : Int) ≤ (x.length : Int)) && decide ((x.length : Int) ≤ 5))) (dt_notP (dt_chainP (d_int (d_callB T.len bt_len (da_one (d_var 0 (c_lenZ (by omega) (o_le ⟨rfl, rfl, fun _ => (d_globI hL (o_le ⟨rfl, rfl⟩))⟩)))))))) (fun hb => (dp_or1 (dt_cmp (d_ix (d_var 0 (d_int (i_str (by omega) (fst_get (by simp only [Bool.not_eq_false', Bool.and_eq_true, decide_eq_true_eq] at hb; omega)) (d_globS T.CAPITALS (o_notInSg ⟨rfl, rfl⟩))))))))))) (fun hb => ?_) (fun hb => s_out ?_)
  · refine s_ret (d_bl (hk' ?_))
    unfold nmV
    rw [Bool.or_eq_true, Bool.not_eq_true', Bool.not_eq_true'] at hb
    rcases hb with z | z
    · rw [z]; rfl
    · rw [z, Bool.false_and, Bool.and_false]
  · rw [Bool.or_eq_false_iff, Bool.not_eq_false', Bool.not_eq_false'] at hb
    refine s_ret (d_gxAll (js := [1]) (ra := rStr) (f := sgIn nchS) [("character", 1)] [1] N.is_nameT.P0 (by simp) (by exact tabF Y.is_name) (fun _ => gxOk_by (N := N_is_name) (sc := defScope s_is_name) (by decide +kernel)) T.all (w_str (d_var 0 ⟨rfl, fun gg z hz => (g_name 1 ?_), hk' ?_⟩)))
    · obtain ⟨c, ec⟩ := sgn_one hz
      subst ec
      exact d_cmp (d_var (ra := rStr) (x := (⟨#[c]⟩ : Str)) 1 (d_globS T.NAME_CHARACTERS (o_inSg ⟨rfl, rfl⟩)))
    · unfold nmV
      rw [hb.1, hb.2]
      rfl
abbrev sp_law_is_name (K : Fg) : Sp := spF K [] (fOne rStr) (fun x => x.length ≤ 1000) rBool nmV
abbrev N_law_is_name : List Str := ["_law_word", "_law_sign"]
theorem sc_law_is_name : FnScope N_law_is_name ["_law_word"] (defScope s_law_is_name) := ⟨rfl, rfl, rfl, by decide +kernel, rfl, by decide +kernel, by decide +kernel⟩
theorem ok_law_is_name (N : Nm K mg) (T : Bt mg) : FnOk P w K mg base CX0 1 N.law_is_name.f N.law_is_name.fd ["_law_word"] (sp_law_is_name K) := by
  refine fn_m N.law_is_name.F sc_law_is_name [] fun cdv A outer s G H E x Q fam hp hk => ?_
  have hp : x.length ≤ 1000 := hp
  have z1 : 100000 ≤ sizeLine := by decide
  have hk' : ∀ {Γ : Gm} {y : Bool}, nmV x = y → RT K ⟨[], _, G, H, []⟩ Γ [] rBool y _ := fun {Γ y} e => hk ⟨rfl, e.symm⟩
  clear hk
  show DS _ K ⟨[], _, G, H, []⟩ [some ⟨rStr, x⟩, none] [] (defBody s_law_is_name) _
  refine s_ifP (x := decide ((x.length : Int) < 1) || (decide ((x.length : Int) > 5) || !sgIn capS x)) (dt_bool (dp_orP (x := decide ((x.length : Int) < 1)) (dt_cmp (d_callB T.len bt_len (da_one (d_var 0 (c_lenZ (by omega) (d_int (o_lt ⟨rfl, rfl⟩))))))) (fun hb => (dp_orP (x := decide ((x.length : Int) > 5)) (dt_cmp (d_callB T.len bt_len (da_one (d_var 0 (c_lenZ (by omega) (d_int (o_gt ⟨rfl, rfl⟩))))))) (fun hb2 => (dp_or1 (dt_cmp (d_ix (d_var 0 (d_int (i_str (by omega) (fst_get (by have := of_decide_eq_false hb; omega)) (d_str (o_notInSg ⟨rfl, rfl⟩))))))))))))) (fun hb => ?_) (fun hb => s_out ?_)
  · refine s_ret (d_bl (hk' ?_))
    unfold nmV
    rw [Bool.or_eq_true, Bool.or_eq_true, decide_eq_true_eq, decide_eq_true_eq, Bool.not_eq_true'] at hb
    rcases hb with z | z | z
    · rw [decide_eq_false (show ¬ (1 : Int) ≤ (x.length : Int) by omega)]; rfl
    · rw [decide_eq_false (show ¬ (x.length : Int) ≤ 5 by omega), Bool.and_false]; rfl
    · rw [z, Bool.false_and, Bool.and_false]
  · rw [Bool.or_eq_false_iff, Bool.or_eq_false_iff, decide_eq_false_iff_not, decide_eq_false_iff_not, Bool.not_eq_false'] at hb
    obtain ⟨b1, b2, b3⟩ := hb
    refine s_ret (d_callB T.all bt_all (da_one (d_lcP (js := [1]) (ra := rStr) (rb := rBool) (f := sgIn nchS) [("_law_sign", 1)] [1] (fun _ => blkOk_by (N := N_law_is_name) (sc := defScope s_law_is_name) (by decide +kernel)) (w_str (d_var 0 ⟨rfl, (by rw [sgn_len]; omega), fun gg D ys z hz => (g_name 1 ?_), c_allG (hk' ?_)⟩)))))
    · obtain ⟨c, ec⟩ := sgn_one hz
      subst ec
      exact d_cmp (d_var (ra := rStr) (x := (⟨#[c]⟩ : Str)) 1 (d_str (o_inSg ⟨rfl, rfl⟩)))
    · unfold nmV
      rw [decide_eq_true (show (1 : Int) ≤ (x.length : Int) by omega), decide_eq_true (show (x.length : Int) ≤ 5 by omega), b3, List.all_map]
      rfl
end
end Law


set_option Elab.async false
set_option linter.all false
set_option maxRecDepth 100000
set_option maxHeartbeats 1500000
set_option synthInstance.maxSize 4000
set_option synthInstance.maxHeartbeats 400000
/-! RqC: requests checked (k22). -/
namespace Law
open PySem L2 Evl Sk MP
local macro_rules | `(tactic| walk_at "sc") => `(tactic| first | omega | assumption | trivial | (with_reducible exact mulOk) | (with_reducible exact smOk) | (with_reducible exact ⟨by decide, smOk⟩) | (with_reducible exact ⟨by omega, smOk⟩) | decide | rfl | (simp only [List.length_cons, List.length_nil]; decide) | exact divOk (by omega))
abbrev Rq := Str × K5 × Str × Str × Int × Int × Int × Int
abbrev rRq : Rp Rq := rTup (fCons rStr (fCons rK5 (fCons rStr (fCons rStr (fCons rInt (fCons rInt (fCons rInt (fOne rInt))))))))
abbrev inF (c : ChV) (n : Str) : Bool := (valX (fxOf c) (Sum.inr n)).isSome
def fixV (c : ChV) (r : Rq) : Bool := (inF c r.2.2.1 && inF c r.2.2.2.1) && !decide (r.2.2.1 = r.2.2.2.1)
def lvlV (r : Rq) : Bool := (decide ((0 : Int) ≤ r.2.2.2.2.1) && decide (r.2.2.2.2.1 ≤ 600)) && (decide ((0 : Int) ≤ r.2.2.2.2.2.1) && decide (r.2.2.2.2.2.1 ≤ 600))
def tckV (r : Rq) : Bool := decide ((0 : Int) ≤ r.2.2.2.2.2.2.1) && decide (r.2.2.2.2.2.2.1 ≤ 90000)
def latV (r : Rq) : Bool := decide ((0 : Int) ≤ r.2.2.2.2.2.2.2) && decide (r.2.2.2.2.2.2.2 ≤ 10000)
def rqV (c : ChV) (r : Rq) (ns : List Str) : Str :=
  if (nmV r.1 && !decide (r.1 ∈ ns)) = false then "name" else if kindV r.2.1 = false then "kind" else if fixV c r = false then "fix" else if lvlV r = false then "level" else if tckV r = false then "tick" else if latV r = true then "" else "late"
structure RqOk (r : Rq) : Prop where
  n : r.1.length ≤ 1000
  s : PyData.strOk r.1 = true
section
variable {P : Program} {w : World} {K : PySem.W.Frag} {mg : Str → Option Value} {base : Heap}
abbrev sp_flaw_of (T : List Addr) (K : Fg) : Sp := sp1 K T (fCons rChart (fCons rRq (fOne (rGh (β := List Str))))) (fun x => RqOk x.2.1) (fun x => ⟨x.2.2.1, oLst rStr, x.2.2.2⟩) rStr fun x y => y = rqV x.1 x.2.1 x.2.2.2
abbrev N_flaw_of : List Str := ["chart", "request", "names", "flight", "kind", "start", "goal", "level", "wanted", "tick", "late"]
theorem sc_flaw_of : FnScope N_flaw_of ["chart", "request", "names"] (defScope s_flaw_of) := ⟨rfl, rfl, rfl, by decide +kernel, rfl, by decide +kernel, by decide +kernel⟩
theorem ok_flaw_of (N : Nm K mg) (T : Bt mg) (Y : Tb0 N base) : FnOk P w K mg base CX0 3 N.flaw_of.f N.flaw_of.fd ["chart", "request", "names"] (sp_flaw_of (tsOf N) K) := by
  refine fn_m N.flaw_of.F sc_flaw_of (tsOf N) fun cdv A outer s G H E x Q fam hp hk => ?_
  obtain ⟨c, ⟨fl, kd, st, go, lv, wa, tk, la⟩, q, ns⟩ := x
  have hp : RqOk (fl, kd, st, go, lv, wa, tk, la) := hp
  have hn : fl.length ≤ 1000 := hp.n
  obtain ⟨t1, h1⟩ := T.HIGHEST
  obtain ⟨t2, h2⟩ := T.LAST_TICK
  obtain ⟨t3, h3⟩ := T.LATEST
  have hk' : ∀ {Γ : Gm} {y : Str}, rqV c (fl, kd, st, go, lv, wa, tk, la) ns = y → RT K ⟨tsOf N, _, G, H, []⟩ Γ [⟨q, oLst rStr, ns⟩] rStr y _ := fun {Γ y} e => hk ⟨rfl, e.symm⟩
  clear hk
  have hk' : ∀ {Γ : Gm} {y : Str}, (if (nmV fl && !decide (fl ∈ ns)) = false then ("name" : Str) else if kindV kd = false then "kind" else if ((inF c st && inF c go) && !decide (st = go)) = false then "fix" else if ((decide ((0 : Int) ≤ lv) && decide (lv ≤ 600)) && (decide ((0 : Int) ≤ wa) && decide (wa ≤ 600))) = false then "level" else if (decide ((0 : Int) ≤ tk) && decide (tk ≤ 90000)) = false then "tick" else if (decide ((0 : Int) ≤ la) && decide (la ≤ 10000)) = true then "" else "late") = y → RT K ⟨tsOf N, _, G, H, []⟩ Γ [⟨q, oLst rStr, ns⟩] rStr y _ := hk'
  show DS _ K ⟨tsOf N, _, G, H, []⟩ [some ⟨rChart, c⟩, some ⟨rRq, (fl, kd, st, go, lv, wa, tk, la)⟩, some ⟨rGh (β := List Str), (q, ns)⟩, none, none, none, none, none, none, none, none] [⟨q, oLst rStr, ns⟩] (defBody s_flaw_of) _
  refine s_gh 2 ?_
  refine s_asg (js := [3, 4, 5, 6, 7, 8, 9, 10]) (ra := rRq) (d_var 1 (g_tup (gs_cons (g_name 3 (gs_cons (g_name 4 (gs_cons (g_name 5 (gs_cons (g_name 6 (gs_cons (g_name 7 (gs_cons (g_name 8 (gs_cons (g_name 9 (gs_one (g_name 10 ?_))))))))))))))))))
  dsimp only
  refine s_ifP (x := !nmV fl || decide (fl ∈ ns)) (dt_bool (dp_orP (x := !nmV fl) (dt_notP (dt_val (d_call N.is_name (ok_is_name N T Y) (da_one (d_var (ra := rStr) (x := fl) 3 (sw_f hn ⟨rfl, rfl⟩)))))) (fun _ => (dp_or1 (dt_cmp (d_var (ra := rStr) (x := fl) 3 (d_var (ra := rAdr) (x := q) 2 (o_inL ⟨rfl, rfl⟩)))))))) (fun hb => ?_) (fun hb => s_out ?_)
  · refine s_ret (d_str (hk' (if_pos ?_)))
    rw [Bool.or_eq_true, Bool.not_eq_true'] at hb
    rcases hb with z | z
    · rw [z]; rfl
    · rw [z, Bool.not_true, Bool.and_false]
  have c1 : ¬ (nmV fl && !decide (fl ∈ ns)) = false := by
    rw [Bool.or_eq_false_iff, Bool.not_eq_false'] at hb
    rw [hb.1, hb.2]
    decide
  refine s_ifP (x := !kindV kd) (dt_notP (dt_val (d_call N.is_kind (ok_is_kind N T) (da_one (d_var (ra := rK5) (x := kd) 4 (sw_f trivial ⟨rfl, rfl⟩)))))) (fun hb => ?_) (fun hb => s_out ?_)
  · refine s_ret (d_str (hk' ?_))
    rw [if_neg c1, if_pos (by rw [Bool.not_eq_true'] at hb; exact hb)]
  have c2 : ¬ kindV kd = false := by rw [Bool.not_eq_false'] at hb; rw [hb]; decide
  refine s_ifP (x := !inF c st || (!inF c go || decide (st = go))) (dt_bool (dp_orP (x := !inF c st) (dt_notInK (d_keyS (d_var (ra := rStr) (x := st) 5 (d_recP 0 0 rfl chN_nd ⟨_, _, _, inferInstance, rfl, rfl⟩)))) (fun _ => (dp_orP (x := !inF c go) (dt_notInK (d_keyS (d_var (ra := rStr) (x := go) 6 (d_recP 0 0 rfl chN_nd ⟨_, _, _, inferInstance, rfl, rfl⟩)))) (fun _ => (dp_or1 (dt_cmp (d_var (ra := rStr) (x := st) 5 (d_var (ra := rStr) (x := go) 6 (o_eqS ⟨rfl, rfl⟩)))))))))) (fun hb => ?_) (fun hb => s_out ?_)
  · refine s_ret (d_str (hk' ?_))
    rw [if_neg c1, if_neg c2, if_pos]
    rw [Bool.or_eq_true, Bool.or_eq_true, Bool.not_eq_true', Bool.not_eq_true'] at hb
    rcases hb with z | z | z
    · rw [z]; rfl
    · rw [z, Bool.and_false]; rfl
    · rw [z, Bool.not_true, Bool.and_false]
  have c3 : ¬ ((inF c st && inF c go) && !decide (st = go)) = false := by
    rw [Bool.or_eq_false_iff, Bool.or_eq_false_iff, Bool.not_eq_false', Bool.not_eq_false'] at hb
    rw [hb.1, hb.2.1, hb.2.2]
    decide
  refine s_ifP (x := !(decide ((0 : Int) ≤ lv) && decide (lv ≤ 600)) || !(decide ((0 : Int) ≤ wa) && decide (wa ≤ 600))) (dt_bool (dp_orP (x := !(decide ((0 : Int) ≤ lv) && decide (lv ≤ 600))) (dt_notP (dt_chainP (d_int (d_var (ra := rInt) (x := lv) 7 (o_le ⟨rfl, rfl, fun _ => (d_globI h1 (o_le ⟨rfl, rfl⟩))⟩))))) (fun _ => (dp_or1 (dt_notP (dt_chainP (d_int (d_var (ra := rInt) (x := wa) 8 (o_le ⟨rfl, rfl, fun _ => (d_globI h1 (o_le ⟨rfl, rfl⟩))⟩))))))))) (fun hb => ?_) (fun hb => s_out ?_)
  · refine s_ret (d_str (hk' ?_))
    rw [if_neg c1, if_neg c2, if_neg c3, if_pos]
    rw [Bool.or_eq_true, Bool.not_eq_true', Bool.not_eq_true'] at hb
    rcases hb with z | z
    · rw [z]; rfl
    · rw [z, Bool.and_false]
  have c4 : ¬ ((decide ((0 : Int) ≤ lv) && decide (lv ≤ 600)) && (decide ((0 : Int) ≤ wa) && decide (wa ≤ 600))) = false := by
    rw [Bool.or_eq_false_iff, Bool.not_eq_false', Bool.not_eq_false'] at hb
    rw [hb.1, hb.2]
    decide
  refine s_ifP (x := !(decide ((0 : Int) ≤ tk) && decide (tk ≤ 90000))) (dt_notP (dt_chainP (d_int (d_var (ra := rInt) (x := tk) 9 (o_le ⟨rfl, rfl, fun _ => (d_globI h2 (o_le ⟨rfl, rfl⟩))⟩))))) (fun hb => ?_) (fun hb => s_out ?_)
  · refine s_ret (d_str (hk' ?_))
    rw [if_neg c1, if_neg c2, if_neg c3, if_neg c4, if_pos (by rw [Bool.not_eq_true'] at hb; exact hb)]
  have c5 : ¬ (decide ((0 : Int) ≤ tk) && decide (tk ≤ 90000)) = false := by rw [Bool.not_eq_false'] at hb; rw [hb]; decide
  refine s_ret (d_iteP (x := decide ((0 : Int) ≤ la) && decide (la ≤ 10000)) (dt_chainP (d_int (d_var (ra := rInt) (x := la) 10 (o_le ⟨rfl, rfl, fun _ => (d_globI h3 (o_le ⟨rfl, rfl⟩))⟩)))) (fun hb => (d_str (hk' ?_))) (fun hb => (d_str (hk' ?_))))
  · rw [if_neg c1, if_neg c2, if_neg c3, if_neg c4, if_neg c5, if_pos hb]
  · rw [if_neg c1, if_neg c2, if_neg c3, if_neg c4, if_neg c5, if_neg (by rw [hb]; decide)]
end
end Law


set_option Elab.async false
set_option linter.all false
set_option maxRecDepth 100000
set_option maxHeartbeats 1500000
set_option synthInstance.maxSize 4000
set_option synthInstance.maxHeartbeats 400000
/-! RqD: requests checked by the law (k22). -/
namespace Law
open PySem L2 Evl Sk MP
local macro_rules | `(tactic| walk_at "sc") => `(tactic| first | omega | assumption | trivial | (with_reducible exact mulOk) | (with_reducible exact smOk) | (with_reducible exact ⟨by decide, smOk⟩) | (with_reducible exact ⟨by omega, smOk⟩) | decide | rfl | (simp only [List.length_cons, List.length_nil]; decide) | exact divOk (by omega))
def kd1 (k : K5) : Bool := decide ((0 : Int) ≤ k.1) && decide (k.1 ≤ 3)
def kd2 (k : K5) : Bool := decide ((1 : Int) ≤ k.2.1) && (decide (k.2.1 ≤ k.2.2.1) && decide (k.2.2.1 ≤ 10000))
def kd3 (k : K5) : Bool := decide ((1 : Int) ≤ k.2.2.2.1) && (decide (k.2.2.2.1 ≤ k.2.2.2.2) && decide (k.2.2.2.2 ≤ 100))
theorem kind_eq (k : K5) : kindV k = (kd1 k && (kd2 k && kd3 k)) := by
  unfold kindV kd1 kd2 kd3
  rw [show decide (k.1 < 4) = decide (k.1 ≤ 3) from decide_eq_decide.mpr (by omega)]
theorem lvl_eq (lv wa : Int) : (!((decide ((0 : Int) ≤ lv) && decide (lv ≤ 600)) && (decide ((0 : Int) ≤ wa) && decide (wa ≤ 600)))) = (decide ((if wa < lv then wa else lv) < 0) || decide ((if wa > lv then wa else lv) > 600)) := by
  rw [Bool.eq_iff_iff]
  simp only [Bool.not_eq_true', Bool.and_eq_false_iff, decide_eq_false_iff_not, Bool.or_eq_true, decide_eq_true_eq]
  split <;> split <;> omega
section
variable {P : Program} {w : World} {K : PySem.W.Frag} {mg : Str → Option Value} {base : Heap}
abbrev sp_code (K : Fg) : Sp := spF K [] (fCons rChart (fCons rRq (fOne (rLst rStr)))) (fun x => RqOk x.2.1) rStr fun x => rqV x.1 x.2.1 x.2.2
abbrev N_code : List Str := ["_law_chart_here", "_law_request_here", "_law_before", "_law_flight", "_law_kind_here", "_law_start_here", "_law_goal", "_law_level", "_law_wanted", "_law_tick", "_law_late"]
theorem sc_code : FnScope N_code ["_law_chart_here", "_law_request_here", "_law_before"] (defScope s_code) := ⟨rfl, rfl, rfl, by decide +kernel, rfl, by decide +kernel, by decide +kernel⟩
theorem ok_code (N : Nm K mg) (T : Bt mg) : FnOk P w K mg base CX0 2 N.code.f N.code.fd ["_law_chart_here", "_law_request_here", "_law_before"] (sp_code K) := by
  refine fn_m N.code.F sc_code [] fun cdv A outer s G H E x Q fam hp hk => ?_
  obtain ⟨c, ⟨fl, kd, st, go, lv, wa, tk, la⟩, ns⟩ := x
  have hp : RqOk (fl, kd, st, go, lv, wa, tk, la) := hp
  have hn : fl.length ≤ 1000 := hp.n
  have hk' : ∀ {Γ : Gm} {y : Str}, rqV c (fl, kd, st, go, lv, wa, tk, la) ns = y → RT K ⟨[], _, G, H, []⟩ Γ [] rStr y _ := fun {Γ y} e => hk ⟨rfl, e.symm⟩
  clear hk
  have hk' : ∀ {Γ : Gm} {y : Str}, (if (nmV fl && !decide (fl ∈ ns)) = false then ("name" : Str) else if kindV kd = false then "kind" else if ((inF c st && inF c go) && !decide (st = go)) = false then "fix" else if ((decide ((0 : Int) ≤ lv) && decide (lv ≤ 600)) && (decide ((0 : Int) ≤ wa) && decide (wa ≤ 600))) = false then "level" else if (decide ((0 : Int) ≤ tk) && decide (tk ≤ 90000)) = false then "tick" else if (decide ((0 : Int) ≤ la) && decide (la ≤ 10000)) = true then "" else "late") = y → RT K ⟨[], _, G, H, []⟩ Γ [] rStr y _ := hk'
  show DS _ K ⟨[], _, G, H, []⟩ [some ⟨rChart, c⟩, some ⟨rRq, (fl, kd, st, go, lv, wa, tk, la)⟩, some ⟨rLst rStr, ns⟩, none, none, none, none, none, none, none, none] [] (defBody s_code) _
  refine s_asg (js := [3, 4, 5, 6, 7, 8, 9, 10]) (ra := rRq) (d_var 1 (g_tup (gs_cons (g_name 3 (gs_cons (g_name 4 (gs_cons (g_name 5 (gs_cons (g_name 6 (gs_cons (g_name 7 (gs_cons (g_name 8 (gs_cons (g_name 9 (gs_one (g_name 10 ?_))))))))))))))))))
  dsimp only
  refine s_ifP (x := !nmV fl || decide (fl ∈ ns)) (dt_bool (dp_orP (x := !nmV fl) (dt_notP (dt_val (d_call N.law_is_name (ok_law_is_name N T) (da_one (d_var (ra := rStr) (x := fl) 3 (sw_f hn ⟨rfl, rfl⟩)))))) (fun _ => (dp_or1 (dt_cmp (d_var (ra := rStr) (x := fl) 3 (d_var (ra := rLst rStr) (x := ns) 2 (o_inL ⟨rfl, rfl⟩)))))))) (fun hb => ?_) (fun hb => s_out ?_)
  · refine s_ret (d_str (hk' (if_pos ?_)))
    rw [Bool.or_eq_true, Bool.not_eq_true'] at hb
    rcases hb with z | z
    · rw [z]; rfl
    · rw [z, Bool.not_true, Bool.and_false]
  have c1 : ¬ (nmV fl && !decide (fl ∈ ns)) = false := by
    rw [Bool.or_eq_false_iff, Bool.not_eq_false'] at hb
    rw [hb.1, hb.2]
    decide
  clear hb
  have kx : ∀ {i : Nat}, True := fun {i} => trivial
  refine s_ifP (x := !kd1 kd || (!kd2 kd || !kd3 kd)) (dt_bool (dp_orP (x := !kd1 kd) (dt_notP (dt_chainP (d_int (d_ix (d_var (ra := rK5) (x := kd) 4 (d_int (i_tup 0 (o_le ⟨rfl, rfl, fun _ => (d_int (o_le ⟨rfl, rfl⟩))⟩)))))))) (fun _ => (dp_orP (x := !kd2 kd) (dt_notP (dt_chain3P (d_int (d_ix (d_var (ra := rK5) (x := kd) 4 (d_int (i_tup 1 (o_le ⟨rfl, rfl, fun _ => (d_ix (d_var (ra := rK5) (x := kd) 4 (d_int (i_tup 2 (o_le ⟨rfl, rfl, fun _ => (d_int (o_le ⟨rfl, rfl⟩))⟩)))))⟩)))))))) (fun _ => (dp_or1 (dt_notP (dt_chain3P (d_int (d_ix (d_var (ra := rK5) (x := kd) 4 (d_int (i_tup 3 (o_le ⟨rfl, rfl, fun _ => (d_ix (d_var (ra := rK5) (x := kd) 4 (d_int (i_tup 4 (o_le ⟨rfl, rfl, fun _ => (d_int (o_le ⟨rfl, rfl⟩))⟩)))))⟩)))))))))))))) (fun hb => ?_) (fun hb => s_out ?_)
  · refine s_ret (d_str (hk' ?_))
    rw [if_neg c1, if_pos]
    rw [kind_eq]
    rw [Bool.or_eq_true, Bool.or_eq_true, Bool.not_eq_true', Bool.not_eq_true', Bool.not_eq_true'] at hb
    rcases hb with z | z | z
    · rw [z]; rfl
    · rw [z, Bool.false_and, Bool.and_false]
    · rw [z, Bool.and_false, Bool.and_false]
  have c2 : ¬ kindV kd = false := by
    rw [Bool.or_eq_false_iff, Bool.or_eq_false_iff, Bool.not_eq_false', Bool.not_eq_false', Bool.not_eq_false'] at hb
    rw [kind_eq, hb.1, hb.2.1, hb.2.2]
    decide
  clear hb
  refine s_ifP (x := !inF c st || (!inF c go || decide (st = go))) (dt_bool (dp_orP (x := !inF c st) (dt_notInK (d_keyS (d_var (ra := rStr) (x := st) 5 (d_recP 0 0 rfl chN_nd ⟨_, _, _, inferInstance, rfl, rfl⟩)))) (fun _ => (dp_orP (x := !inF c go) (dt_notInK (d_keyS (d_var (ra := rStr) (x := go) 6 (d_recP 0 0 rfl chN_nd ⟨_, _, _, inferInstance, rfl, rfl⟩)))) (fun _ => (dp_or1 (dt_cmp (d_var (ra := rStr) (x := st) 5 (d_var (ra := rStr) (x := go) 6 (o_eqS ⟨rfl, rfl⟩)))))))))) (fun hb => ?_) (fun hb => s_out ?_)
  · refine s_ret (d_str (hk' ?_))
    rw [if_neg c1, if_neg c2, if_pos]
    rw [Bool.or_eq_true, Bool.or_eq_true, Bool.not_eq_true', Bool.not_eq_true'] at hb
    rcases hb with z | z | z
    · rw [z]; rfl
    · rw [z, Bool.and_false]; rfl
    · rw [z, Bool.not_true, Bool.and_false]
  have c3 : ¬ ((inF c st && inF c go) && !decide (st = go)) = false := by
    rw [Bool.or_eq_false_iff, Bool.or_eq_false_iff, Bool.not_eq_false', Bool.not_eq_false'] at hb
    rw [hb.1, hb.2.1, hb.2.2]
    decide
  clear hb
  refine s_ifP (x := decide ((if wa < lv then wa else lv) < 0) || decide ((if wa > lv then wa else lv) > 600)) (dt_bool (dp_orP (x := decide ((if wa < lv then wa else lv) < 0)) (dt_cmp (d_callB T.min bt_min (da_cons (d_var (ra := rInt) (x := lv) 7 (da_one (d_var (ra := rInt) (x := wa) 8 (c_min2 (d_int (o_lt ⟨rfl, rfl⟩))))))))) (fun _ => (dp_or1 (dt_cmp (d_callB T.max bt_max (da_cons (d_var (ra := rInt) (x := lv) 7 (da_one (d_var (ra := rInt) (x := wa) 8 (c_max2 (d_int (o_gt ⟨rfl, rfl⟩))))))))))))) (fun hb => ?_) (fun hb => s_out ?_)
  · rw [← lvl_eq, Bool.not_eq_true'] at hb
    refine s_ret (d_str (hk' ?_))
    rw [if_neg c1, if_neg c2, if_neg c3, if_pos hb]
  have c4 : ¬ ((decide ((0 : Int) ≤ lv) && decide (lv ≤ 600)) && (decide ((0 : Int) ≤ wa) && decide (wa ≤ 600))) = false := by
    rw [← lvl_eq, Bool.not_eq_false'] at hb
    rw [hb]
    decide
  clear hb
  refine s_ifP (x := !(decide ((0 : Int) ≤ tk) && decide (tk ≤ 90000))) (dt_notP (dt_chainP (d_int (d_var (ra := rInt) (x := tk) 9 (o_le ⟨rfl, rfl, fun _ => (d_int (o_le ⟨rfl, rfl⟩))⟩))))) (fun hb => ?_) (fun hb => s_out ?_)
  · refine s_ret (d_str (hk' ?_))
    rw [if_neg c1, if_neg c2, if_neg c3, if_neg c4, if_pos (by rw [Bool.not_eq_true'] at hb; exact hb)]
  have c5 : ¬ (decide ((0 : Int) ≤ tk) && decide (tk ≤ 90000)) = false := by rw [Bool.not_eq_false'] at hb; rw [hb]; decide
  refine s_ret (d_iteP (x := decide ((0 : Int) ≤ la) && decide (la ≤ 10000)) (dt_chainP (d_int (d_var (ra := rInt) (x := la) 10 (o_le ⟨rfl, rfl, fun _ => (d_int (o_le ⟨rfl, rfl⟩))⟩)))) (fun hb => (d_str (hk' ?_))) (fun hb => (d_str (hk' ?_))))
  · rw [if_neg c1, if_neg c2, if_neg c3, if_neg c4, if_neg c5, if_pos hb]
  · rw [if_neg c1, if_neg c2, if_neg c3, if_neg c4, if_neg c5, if_neg (by rw [hb]; decide)]
end
end Law


set_option Elab.async false
set_option linter.all false
set_option maxRecDepth 100000
set_option maxHeartbeats 1500000
set_option synthInstance.maxSize 4000
set_option synthInstance.maxHeartbeats 400000
/-! RqE: lists of requests checked (k22). -/
namespace Law
open PySem L2 Evl Sk MP
local macro_rules | `(tactic| walk_at "sc") => `(tactic| first | omega | assumption | trivial | (with_reducible exact mulOk) | (with_reducible exact smOk) | (with_reducible exact ⟨by decide, smOk⟩) | (with_reducible exact ⟨by omega, smOk⟩) | decide | rfl | (simp only [List.length_cons, List.length_nil]; decide) | exact divOk (by omega))
abbrev CI := Str × Int
abbrev rq0 : Rq := ("", (0, 0, 0, 0, 0), "", "", 0, 0, 0, 0)
def rqAt (c : ChV) (rs : List Rq) (k : Nat) : Str := rqV c (rs.getD k rq0) ((rs.take k).map (·.1))
def flwV (c : ChV) (rs : List Rq) : Option CI := ((List.range rs.length).find? fun k => !decide (rqAt c rs k = "")).map fun k : Nat => (rqAt c rs k, (k : Int))
theorem rq_msg (c : ChV) (r : Rq) (ns : List Str) : (reprText (rqV c r ns)).length ≤ 100000 ∧ PyData.strOk (rqV c r ns) = true := by
  unfold rqV
  split
  · exact ⟨by decide +kernel, by decide +kernel⟩
  split
  · exact ⟨by decide +kernel, by decide +kernel⟩
  split
  · exact ⟨by decide +kernel, by decide +kernel⟩
  split
  · exact ⟨by decide +kernel, by decide +kernel⟩
  split
  · exact ⟨by decide +kernel, by decide +kernel⟩
  split
  · exact ⟨by decide +kernel, by decide +kernel⟩
  · exact ⟨by decide +kernel, by decide +kernel⟩
theorem find_range {p : Nat → Bool} {n i : Nat} (hi : i < n) (h : ∀ j, j < i → p j = false) (hp : p i = true) : (List.range n).find? p = some i := by
  rw [List.find?_range_eq_some]
  exact ⟨hp, List.mem_range.mpr hi, fun j hj => by rw [h j hj]; rfl⟩
theorem find_none {p : Nat → Bool} {n : Nat} (h : ∀ j, j < n → p j = false) : (List.range n).find? p = none := by
  rw [List.find?_eq_none]
  intro j hj
  rw [h j (List.mem_range.mp hj)]
  exact Bool.false_ne_true
theorem flw_at {c : ChV} {rs : List Rq} {i : Nat} (hi : i < rs.length) (h : ∀ j, j < i → rqAt c rs j = "") (hp : rqAt c rs i ≠ "") : flwV c rs = some (rqAt c rs i, (i : Int)) := by
  unfold flwV
  rw [find_range hi (fun j hj => by rw [h j hj]; rfl) (by rw [decide_eq_false hp]; rfl)]
  rfl
theorem flw_no {c : ChV} {rs : List Rq} (h : ∀ j, j < rs.length → rqAt c rs j = "") : flwV c rs = none := by
  unfold flwV
  rw [find_none (fun j hj => by rw [h j hj]; rfl)]
  rfl
theorem rq_at {c : ChV} {rs : List Rq} {i : Nat} {r : Rq} (h : rs[i]? = some r) : rqAt c rs i = rqV c r ((rs.take i).map (·.1)) := by
  unfold rqAt
  rw [List.getD_eq_getElem?_getD, h]
  rfl
structure RsOk (rs : List Rq) : Prop where
  l : rs.length ≤ 1000
  r : ∀ r ∈ rs, RqOk r
section
variable {P : Program} {w : World} {K : PySem.W.Frag} {mg : Str → Option Value} {base : Heap}
abbrev sp_check_requests (E : Addr) (T : List Addr) (K : Fg) : Sp := sp0X K T (fCons rChart (fOne (rLst rRq))) (fun x => RsOk x.2) rNon (fun x _ => flwV x.1 x.2 = none) fun x C fl => C = E ∧ ∃ c t, fl = ReF c t ∧ flwV x.1 x.2 = some (c, t)
abbrev N_check_requests : List Str := ["chart", "requests", "names", "index", "request", "code"]
theorem sc_check_requests : FnScope N_check_requests ["chart", "requests"] (defScope s_check_requests) := ⟨rfl, rfl, rfl, by decide +kernel, rfl, by decide +kernel, by decide +kernel⟩
theorem ok_check_requests (N : Nm K mg) (T : Bt mg) (Y : Tb0 N base) (hP : P.main = pM) : FnOk P w K mg base (L2.CX P w) 4 N.check_requests.f N.check_requests.fd ["chart", "requests"] (sp_check_requests N.cRequestError (tsOf N) K) := by
  refine fn_x N.check_requests.F sc_check_requests (tsOf N) fun cdv A outer s G H E x Q fam hp tk hpo hk hkx => ?_
  obtain ⟨c, rs⟩ := x
  have hp : RsOk rs := hp
  have hl := hp.l
  have z1 : 100000 ≤ sizeLine := by decide
  have hk' : ∀ {Γ : Gm}, flwV c rs = none → RT K ⟨tsOf N, _, G, H, []⟩ Γ [] rNon () _ := fun {Γ} e => hk ⟨rfl, e⟩
  have hx' : ∀ {Γ : Gm} {d : Str} {t : Int}, flwV c rs = some (d, t) → XT K ⟨tsOf N, _, G, H, []⟩ Γ [] N.cRequestError (ReF d t) _ := fun {Γ d t} e => hkx ⟨rfl, rfl, d, t, rfl, e⟩
  clear hk hkx
  show DS _ K ⟨tsOf N, _, G, H, []⟩ [some ⟨rChart, c⟩, some ⟨rLst rRq, rs⟩, none, none, none, none] [] (defBody s_check_requests) _
  refine s_set 2 (d_lstO (ra := rStr) (da_all0 ⟨(by walk_at "sc"), fun q hq => ?_⟩))
  refine s_for (js := [3, 4]) (w_enum T.enumerate (d_var 1 ?_))
  refine ⟨List Str, fun i d => d = (rs.take i).map (·.1) ∧ ∀ j, j < i → rqAt c rs j = "", fun _ => [some ⟨rChart, c⟩, some ⟨rLst rRq, rs⟩, some ⟨rAdr, q⟩, none, none, none], fun d => [⟨q, oLst rStr, d⟩], ⟨[], ⟨rfl, fun j h => absurd h (Nat.not_lt_zero _)⟩, ⟨rfl, rfl, rfl, trivial⟩, rfl⟩, fun gg i z d hx hd => ?_, fun d hd => ?_⟩
  · obtain ⟨r, h1, h2⟩ := enm_get.mp hx
    subst h2
    obtain ⟨hd1, hd2⟩ := hd
    have hi : i < rs.length := (List.getElem?_eq_some_iff.mp h1).1
    have hr : RqOk r := hp.r r (List.mem_of_getElem? h1)
    have hdl : d.length ≤ 1000 := by rw [hd1, List.length_map, List.length_take]; omega
    have ea : rqAt c rs i = rqV c r d := by rw [rq_at h1, hd1]
    have hmsg := rq_msg c r d
    refine g_tup (gs_cons (g_name 3 (gs_one (g_name 4 ?_))))
    dsimp only
    refine s_set 5 (d_call N.flaw_of (ok_flaw_of N T Y) (da_cons (d_var (ra := rChart) (x := c) 0 (da_cons (d_var (ra := rRq) (x := r) 4 (da_one (d_gh d (d_var (ra := rAdr) (x := q) 2 (sw_1 (q := q) hr (fun y hy => ?_))))))))))
    have hy : y = rqV c r d := hy
    subst hy
    rw [← ea] at hmsg ⊢
    generalize hco : rqAt c rs i = co at hmsg
    refine s_ifP (x := !decide (co = "")) (dt_cmp (d_var (ra := rStr) (x := co) 5 (d_str (o_neS ⟨rfl, rfl⟩)))) (fun hb => ?_) (fun hb => s_out ?_)
    · rw [Bool.not_eq_true', decide_eq_false_iff_not] at hb
      refine s_raise tk N.xRequestError (ini_RequestError N hP) (da_cons (d_var (ra := rStr) (x := co) 5 (da_one (d_var (ra := rInt) (x := (i : Int)) 3 ⟨⟨rfl, by decide⟩, re_msg (k := 20) hmsg.1 (Bd.of (by omega) (by omega)) (by decide), xt_in (xt_drop (hx' ?_))⟩))))
      rw [flw_at hi hd2 (by rw [hco]; exact hb), hco]
    · rw [Bool.not_eq_false', decide_eq_true_eq] at hb
      refine s_expr (d_app (ra := rStr) (d_var (ra := rAdr) (x := q) 2 ⟨_, _, inferInstance, d_ix (d_var (ra := rRq) (x := r) 4 (d_int (i_tup 0 ⟨_, _, inferInstance, by omega, ?_⟩)))⟩))
      refine s_next _ ⟨?_, fun j hj => ?_⟩ ⟨rfl, rfl, rfl, trivial⟩ rfl
      · rw [List.take_succ, h1, List.map_append, ← hd1]
        rfl
      · by_cases e : j = i
        · rw [e, hco, hb]
        · exact hd2 j (by omega)
  · obtain ⟨_, hd2⟩ := hd
    rw [enm_len] at hd2
    exact s_fall (rt_drop (hk' (flw_no hd2)))
abbrev sp_checked (T : List Addr) (K : Fg) : Sp := spF K T (fCons rChart (fOne (rLst rRq))) (fun x => RsOk x.2) (rOpt rCI) fun x => flwV x.1 x.2
abbrev N_checked : List Str := ["_law_chart_here", "_law_requests", "e"]
theorem sc_checked : FnScope N_checked ["_law_chart_here", "_law_requests"] (defScope s_checked) := ⟨rfl, rfl, rfl, by decide +kernel, rfl, by decide +kernel, by decide +kernel⟩
theorem ok_checked (N : Nm K mg) (T : Bt mg) (Y : Tb0 N base) (hP : P.main = pM) : FnOk P w K mg base CX0 5 N.checked.f N.checked.fd ["_law_chart_here", "_law_requests"] (sp_checked (tsOf N) K) := by
  refine fn_m N.checked.F sc_checked (tsOf N) fun cdv A outer s G H E x Q fam hp hk => ?_
  obtain ⟨c, rs⟩ := x
  have hk' : ∀ {Γ : Gm} {y : Option CI}, flwV c rs = y → RT K ⟨tsOf N, _, G, H, []⟩ Γ [] (rOpt rCI) y _ := fun {Γ y} e => hk ⟨rfl, e.symm⟩
  clear hk
  show DS _ K ⟨tsOf N, _, G, H, []⟩ [some ⟨rChart, c⟩, some ⟨rLst rRq, rs⟩, none] [] (defBody s_checked) _
  refine s_tryAsRet 2 (by rfl) (by rfl) (by exact ⟨rfl, by decide, Or.inl N.xRequestError.m⟩) (d_re (x := fun _ _ => True) (ra := rNon) (rc := rOpt rCI) (d_callX ft_tk N.check_requests (ok_check_requests N T Y hP) (da_cons (d_var 0 (da_one (d_var 1 (sw_0X hp (fun y hy => ⟨none, fun h => h, hk' hy⟩) (fun C fl hxe => ?_))))))))
  obtain ⟨eC, d, t, efl, herr⟩ := hxe
  subst eC efl
  exact xt_as (rb := rOpt rCI) N.xRequestError.xm fun a dd => d_some (ra := rCI) (d_tup (da_cons (d_xf (rb := rStr) rfl N.xRequestError.xf (N.xRequestError.na _ (List.mem_cons_self ..)) (d_var (ra := rXc dd (ReF d t)) (x := a) 2 ⟨rfl, .str d, d, by rfl, rfl, da_one (d_xf (rb := rInt) rfl N.xRequestError.xf (N.xRequestError.na _ (List.mem_cons_of_mem _ (List.mem_cons_self ..))) (d_var (ra := rXc dd (ReF d t)) (x := a) 2 ⟨rfl, .int t, t, by rfl, rfl, hk' herr⟩))⟩))))
abbrev sp_flaw (K : Fg) : Sp := spF K [] (fCons rChart (fOne (rLst rRq))) (fun x => RsOk x.2) (rOpt rCI) fun x => flwV x.1 x.2
abbrev N_flaw : List Str := ["_law_chart_here", "_law_requests", "_law_index", "_law_code_here", "_law_request_here"]
theorem sc_flaw : FnScope N_flaw ["_law_chart_here", "_law_requests"] (defScope s_flaw) := ⟨rfl, rfl, rfl, by decide +kernel, rfl, by decide +kernel, by decide +kernel⟩
theorem ok_flaw (N : Nm K mg) (T : Bt mg) : FnOk P w K mg base CX0 3 N.flaw.f N.flaw.fd ["_law_chart_here", "_law_requests"] (sp_flaw K) := by
  refine fn_m N.flaw.F sc_flaw [] fun cdv A outer s G H E x Q fam hp hk => ?_
  obtain ⟨c, rs⟩ := x
  have hp : RsOk rs := hp
  have hl := hp.l
  have z1 : 100000 ≤ sizeLine := by decide
  have hk' : ∀ {Γ : Gm} {y : Option CI}, flwV c rs = y → RT K ⟨[], _, G, H, []⟩ Γ [] (rOpt rCI) y _ := fun {Γ y} e => hk ⟨rfl, e.symm⟩
  clear hk
  show DS _ K ⟨[], _, G, H, []⟩ [some ⟨rChart, c⟩, some ⟨rLst rRq, rs⟩, none, none, none] [] (defBody s_flaw) _
  refine s_for (js := [2]) (w_rng1 T.range (d_callB T.len bt_len (da_one (d_var 1 (c_lenL ⟨by omega, ?_⟩)))))
  refine ⟨Unit, fun i _ => ∀ j, j < i → rqAt c rs j = "", fun _ => [some ⟨rChart, c⟩, some ⟨rLst rRq, rs⟩, none, none, none], fun _ => [], ⟨(), fun j h => absurd h (Nat.not_lt_zero _), ⟨rfl, rfl, trivial⟩, rfl⟩, fun gg i z d hx hd2 => (g_name 2 ?_), fun d hd2 => ?_⟩
  · obtain ⟨hi, ex⟩ := rgI_item hx
    have ex : z = (i : Int) := by omega
    subst ex
    have hi : i < rs.length := by omega
    obtain ⟨r, h1⟩ : ∃ r, rs[i]? = some r := ⟨_, List.getElem?_eq_getElem hi⟩
    have hr : RqOk r := hp.r r (List.mem_of_getElem? h1)
    have ea : rqAt c rs i = rqV c r ((rs.take i).map (·.1)) := rq_at h1
    have ct : cutL rs none (some (i : Int)) = rs.take i := cut_to rs i (by omega)
    refine s_set 3 (d_call N.code (ok_code N T) (da_cons (d_var (ra := rChart) (x := c) 0 (da_cons (d_ix (d_var (ra := rLst rRq) (x := rs) 1 (d_var (ra := rInt) (x := (i : Int)) 2 (i_lst (atI_nat' h1) (da_one (d_lcP (js := [4]) (ra := rRq) (rb := rStr) (f := fun r : Rq => r.1) [("_law_request_here", 4)] [4] (fun _ => blkOk_by (N := N_flaw) (sc := defScope s_flaw) (by decide +kernel)) (w_lst (d_slice (d_var (ra := rLst rRq) (x := rs) 1 (do_no (do_at (d_var (ra := rInt) (x := (i : Int)) 2 (sl_e ct ⟨rfl, (by rw [List.length_take]; omega), fun g2 D ys x2 hx2 => (g_name 4 (d_ix (d_var (ra := rRq) (x := x2) 4 (d_int (i_tup 0 ⟨rfl, rfl⟩))))), (sw_f hr ?_)⟩)))))))))))))))))
    dsimp only
    rw [← ea]
    generalize hco : rqAt c rs i = co
    refine s_ifP (x := !decide (co = "")) (dt_cmp (d_var (ra := rStr) (x := co) 3 (d_str (o_neS ⟨rfl, rfl⟩)))) (fun hb => ?_) (fun hb => s_out ?_)
    · rw [Bool.not_eq_true', decide_eq_false_iff_not] at hb
      refine s_ret (d_some (ra := rCI) (d_tup (da_cons (d_var (ra := rStr) (x := co) 3 (da_one (d_var (ra := rInt) (x := (i : Int)) 2 (rt_in (hk' ?_))))))))
      rw [flw_at hi hd2 (by rw [hco]; exact hb), hco]
    · rw [Bool.not_eq_false', decide_eq_true_eq] at hb
      refine s_next () (fun j hj => ?_) ⟨rfl, rfl, trivial⟩ rfl
      by_cases e : j = i
      · rw [e, hco, hb]
      · exact hd2 j (by omega)
  · rw [rgI_len, Int.toNat_natCast] at hd2
    exact s_ret (d_none (hk' (flw_no hd2)))
end
end Law


/-! RqF: routes over open legs, plainly (k22). -/
namespace Law
open PySem L2 Evl Sk MP
abbrev Rt := List Str
abbrev lst (r : Rt) : Str := at_ r (r.length - 1)
def opn (lv : Int) (s : Str) (l : Leg) : Bool := decide (l.1 = s) && (decide (l.2.2.2.1 ≤ lv) && decide (lv ≤ l.2.2.2.2))
abbrev opl (lg : List Leg) (lv : Int) (s : Str) : List Leg := lg.filter (opn lv s)
abbrev xt (r : Rt) (l : Leg) : Rt := r ++ [l.2.1]
abbrev isG (go : Str) (l : Leg) : Bool := decide (l.2.1 = go)
abbrev isN (go : Str) (r : Rt) (l : Leg) : Bool := !decide (l.2.1 = go) && !decide (l.2.1 ∈ r)
def cmpV (lg : List Leg) (lv : Int) (go : Str) (r : Rt) : List Rt := ((opl lg lv (lst r)).filter (isG go)).map (xt r)
def lngV (lg : List Leg) (lv : Int) (go : Str) (r : Rt) : List Rt := ((opl lg lv (lst r)).filter (isN go r)).map (xt r)
def grwV (lg : List Leg) (lv : Int) (st go : Str) : Nat → List Rt
  | 0 => [[st]]
  | k + 1 => (grwV lg lv st go k).flatMap (lngV lg lv go)
def dnV (lg : List Leg) (lv : Int) (st go : Str) : Nat → List Rt
  | 0 => []
  | k + 1 => dnV lg lv st go k ++ (grwV lg lv st go k).flatMap (cmpV lg lv go)
/-- the law's own -/
def lwO (lv : Int) (r : Rt) (l : Leg) : Bool := decide (l.1 = lst r) && ((decide (l.2.2.2.1 ≤ lv) && decide (lv ≤ l.2.2.2.2)) && !decide (l.2.1 ∈ r))
def lwV (lg : List Leg) (lv : Int) (r : Rt) : List Rt := (lg.filter (lwO lv r)).map (xt r)
theorem flatMap_take {α β : Type} {f : α → List β} {xs : List α} {i : Nat} {x : α} (h : xs[i]? = some x) : (xs.take (i + 1)).flatMap f = (xs.take i).flatMap f ++ f x := by
  rw [List.take_succ, h, List.flatMap_append]
  simp
theorem fm_take {α β : Type} {f : α → β} {p : α → Bool} {xs : List α} {i : Nat} {x : α} (h : xs[i]? = some x) : ((xs.take (i + 1)).filter p).map f = ((xs.take i).filter p).map f ++ (if p x = true then [f x] else []) := by
  rw [List.take_succ, h, List.filter_append, List.map_append]
  congr 1
  show ([x].filter p).map f = _
  rw [List.filter_cons]
  split <;> rfl
theorem flm_len {α β : Type} {f : α → List β} {n : Nat} : ∀ {xs : List α}, (∀ x ∈ xs, (f x).length ≤ n) → (xs.flatMap f).length ≤ xs.length * n
  | [], _ => by simp
  | x :: xs, h => by
    rw [List.flatMap_cons, List.length_append, List.length_cons, Nat.add_mul, Nat.one_mul]
    have h1 := flm_len (xs := xs) fun y hy => h y (List.mem_cons_of_mem _ hy)
    have h2 := h x List.mem_cons_self
    omega
theorem flt_flm {α β : Type} {f g : α → List β} {p : β → Bool} : ∀ {xs : List α}, (∀ x ∈ xs, (f x).filter p = g x) → (xs.flatMap f).filter p = xs.flatMap g
  | [], _ => rfl
  | x :: xs, h => by
    rw [List.flatMap_cons, List.flatMap_cons, List.filter_append, h x List.mem_cons_self, flt_flm fun y hy => h y (List.mem_cons_of_mem _ hy)]
theorem lst_app (r : Rt) (x : Str) : lst (r ++ [x]) = x := by
  show at_ (r ++ [x]) ((r ++ [x]).length - 1) = x
  rw [List.length_append]
  exact at_app2
theorem len_sub {α : Type} {p q : α → Bool} {xs : List α} (h : ∀ x, p x = true → q x = true) : (xs.filter p).length ≤ (xs.filter q).length := by
  have e : xs.filter p = (xs.filter q).filter p := by
    rw [List.filter_filter]
    refine List.filter_congr fun x _ => ?_
    cases e : p x with
    | false => rfl
    | true => rw [h x e]; rfl
  rw [e]
  exact List.length_filter_le _ _
theorem lw_len {ns : List Str} {lg : List Leg} (h : LegIn ns lg) (lv : Int) (r : Rt) : (lwV lg lv r).length ≤ 3 := by
  unfold lwV
  rw [List.length_map]
  refine Nat.le_trans (len_sub (q := fun l => decide (l.1 = lst r)) fun l hl => ?_) (h.g (lst r))
  unfold lwO at hl
  rw [Bool.and_eq_true] at hl
  exact hl.1
theorem op_len {ns : List Str} {lg : List Leg} (h : LegIn ns lg) (lv : Int) (s : Str) : (opl lg lv s).length ≤ 3 := by
  refine Nat.le_trans (len_sub (q := fun l => decide (l.1 = s)) fun l hl => ?_) (h.g s)
  unfold opn at hl
  rw [Bool.and_eq_true] at hl
  exact hl.1
theorem cmp_len {ns : List Str} {lg : List Leg} (h : LegIn ns lg) (lv : Int) (go : Str) (r : Rt) : (cmpV lg lv go r).length ≤ 3 := by
  unfold cmpV
  rw [List.length_map]
  exact Nat.le_trans (List.length_filter_le _ _) (op_len h lv _)
theorem lng_len {ns : List Str} {lg : List Leg} (h : LegIn ns lg) (lv : Int) (go : Str) (r : Rt) : (lngV lg lv go r).length ≤ 3 := by
  unfold lngV
  rw [List.length_map]
  exact Nat.le_trans (List.length_filter_le _ _) (op_len h lv _)
theorem grw_len {ns : List Str} {lg : List Leg} (h : LegIn ns lg) (lv : Int) (st go : Str) : ∀ k, (grwV lg lv st go k).length ≤ 3 ^ k
  | 0 => Nat.le_refl _
  | k + 1 => by
    have h1 := flm_len (xs := grwV lg lv st go k) fun r _ => lng_len h lv go r
    have h2 := Nat.mul_le_mul_right 3 (grw_len h lv st go k)
    show ((grwV lg lv st go k).flatMap (lngV lg lv go)).length ≤ 3 ^ k * 3
    omega
theorem grw7 {ns : List Str} {lg : List Leg} (h : LegIn ns lg) (lv : Int) (st go : Str) {k : Nat} (hk : k ≤ 7) : (grwV lg lv st go k).length ≤ 2187 := Nat.le_trans (grw_len h lv st go k) (Nat.pow_le_pow_right (n := 3) (by decide) hk)
theorem dn_len {ns : List Str} {lg : List Leg} (h : LegIn ns lg) (lv : Int) (st go : Str) : ∀ {k}, k ≤ 7 → (dnV lg lv st go k).length ≤ k * 6561
  | 0, _ => Nat.le_refl _
  | k + 1, hk => by
    have h1 := flm_len (xs := grwV lg lv st go k) fun r _ => cmp_len h lv go r
    have h2 := grw7 h lv st go (k := k) (by omega)
    have h3 := dn_len h lv st go (k := k) (by omega)
    show (dnV lg lv st go k ++ (grwV lg lv st go k).flatMap (cmpV lg lv go)).length ≤ _
    rw [List.length_append]
    omega
/-- a growing route -/
structure GrOk (ch : ChV) (go : Str) (k : Nat) (r : Rt) : Prop where
  w : WkOk ch r
  l : r.length = k + 1
  g : go ∉ r
theorem wk_one {ch : ChV} {st : Str} (h : ∃ p, valX (fxOf ch) (Sum.inr st) = some p ∧ PtOk p) : WkOk ch [st] where
  one := Nat.le_refl _
  fx := fun n hn => by rw [List.mem_singleton.mp hn]; exact h
  lg := fun k hk => absurd hk (by show ¬ k + 1 < 1; omega)
theorem op_mem {lg : List Leg} {lv : Int} {s : Str} {l : Leg} (h : l ∈ opl lg lv s) : l ∈ lg ∧ l.1 = s := by
  obtain ⟨h1, h2⟩ := List.mem_filter.mp h
  unfold opn at h2
  rw [Bool.and_eq_true] at h2
  exact ⟨h1, of_decide_eq_true h2.1⟩
theorem grw_ok {ch : ChV} (hc : ChOk ch) {lv : Int} {st go : Str} (hs : ∃ p, valX (fxOf ch) (Sum.inr st) = some p ∧ PtOk p) (hn : st ≠ go) : ∀ {k : Nat}, ∀ r ∈ grwV (lgOf ch) lv st go k, GrOk ch go k r
  | 0, r, hr => by
    have e : r = [st] := List.mem_singleton.mp hr
    subst e
    exact ⟨wk_one hs, rfl, fun z => hn (List.mem_singleton.mp z).symm⟩
  | k + 1, r, hr => by
    obtain ⟨q, hq, hr⟩ := List.mem_flatMap.mp hr
    have hq := grw_ok hc hs hn q hq
    obtain ⟨l, hl, e⟩ := List.mem_map.mp hr
    obtain ⟨h1, h2⟩ := List.mem_filter.mp hl
    obtain ⟨h3, h4⟩ := op_mem h1
    subst e
    refine ⟨hq.w.snoc hc h3 h4, by show (q ++ [_]).length = _; rw [List.length_append, hq.l]; rfl, fun z => ?_⟩
    rcases List.mem_append.mp z with z | z
    · exact hq.g z
    · rw [Bool.and_eq_true, Bool.not_eq_true', decide_eq_false_iff_not] at h2
      exact h2.1 (List.mem_singleton.mp z).symm
/-- a route that is done -/
structure DnOk (ch : ChV) (k : Nat) (r : Rt) : Prop where
  w : WkOk ch r
  l : 2 ≤ r.length
  m : r.length ≤ k + 1
theorem DnOk.rt {ch : ChV} {k : Nat} {r : Rt} (h : DnOk ch k r) (hk : k ≤ 900) : RtV ch r := ⟨h.l, by have := h.m; omega, h.w.fx, h.w.lg⟩
theorem dn_ok {ch : ChV} (hc : ChOk ch) {lv : Int} {st go : Str} (hs : ∃ p, valX (fxOf ch) (Sum.inr st) = some p ∧ PtOk p) (hn : st ≠ go) : ∀ {k : Nat}, ∀ r ∈ dnV (lgOf ch) lv st go k, DnOk ch k r
  | 0, r, hr => absurd hr List.not_mem_nil
  | k + 1, r, hr => by
    rcases List.mem_append.mp hr with z | z
    · have := dn_ok hc hs hn r z
      exact ⟨this.w, this.l, Nat.le_succ_of_le this.m⟩
    · obtain ⟨q, hq, hr⟩ := List.mem_flatMap.mp z
      have hq := grw_ok hc hs hn q hq
      obtain ⟨l, hl, e⟩ := List.mem_map.mp hr
      obtain ⟨h1, _⟩ := List.mem_filter.mp hl
      obtain ⟨h3, h4⟩ := op_mem h1
      subst e
      have hl := hq.l
      have e2 : (q ++ [l.2.1]).length = k + 2 := by rw [List.length_append, hl]; rfl
      exact ⟨hq.w.snoc hc h3 h4, by show 2 ≤ (q ++ [l.2.1]).length; omega, by show (q ++ [l.2.1]).length ≤ _; omega⟩
theorem lw_cmp {lg : List Leg} {lv : Int} {go : Str} {r : Rt} (hg : go ∉ r) : (lwV lg lv r).filter (fun q => decide (lst q = go)) = cmpV lg lv go r := by
  unfold lwV cmpV
  rw [List.filter_map, List.filter_filter, List.filter_filter]
  congr 1
  refine List.filter_congr fun l _ => ?_
  show (decide (lst (r ++ [l.2.1]) = go) && lwO lv r l) = (isG go l && opn lv (lst r) l)
  rw [lst_app]
  by_cases e : l.2.1 = go
  · have e2 : decide (l.2.1 ∈ r) = false := decide_eq_false (by rw [e]; exact hg)
    unfold lwO opn
    rw [e2, Bool.not_false, Bool.and_true]
  · rw [decide_eq_false e, Bool.false_and]
    show _ = (decide (l.2.1 = go) && _)
    rw [decide_eq_false e, Bool.false_and]
theorem lw_lng {lg : List Leg} {lv : Int} {go : Str} {r : Rt} : (lwV lg lv r).filter (fun q => !decide (lst q = go)) = lngV lg lv go r := by
  unfold lwV lngV
  rw [List.filter_map, List.filter_filter, List.filter_filter]
  congr 1
  refine List.filter_congr fun l _ => ?_
  show (!decide (lst (r ++ [l.2.1]) = go) && lwO lv r l) = ((!decide (l.2.1 = go) && !decide (l.2.1 ∈ r)) && opn lv (lst r) l)
  rw [lst_app]
  unfold lwO opn
  cases decide (l.2.1 = go) <;> cases decide (l.2.1 ∈ r) <;> cases decide (l.1 = lst r) <;> cases decide (l.2.2.2.1 ≤ lv) <;> cases decide (lv ≤ l.2.2.2.2) <;> rfl
abbrev Rk3 := Int × Int × Rt
abbrev rRk3 : Rp Rk3 := rTup (fCons rInt (fCons rInt (fOne rRt)))
abbrev eRk3 : Rk3 → PyData := fun x => .tuple [.int x.1, .int x.2.1, .tuple (x.2.2.map .str)]
abbrev rk3 (c : ChV) (r : Rt) : Rk3 := (sumO (lnP (fxOf c)) (r.zip (r.drop 1)), (r.length : Int), r)
def allV (c : ChV) (lv : Int) (st go : Str) : List Rk3 := ((dnV (lgOf c) lv st go 7).map (rk3 c)).mergeSort (PySem.W.dataLe false eRk3)
theorem all_mem {c : ChV} {lv : Int} {st go : Str} {x : Rk3} : x ∈ allV c lv st go ↔ ∃ r ∈ dnV (lgOf c) lv st go 7, rk3 c r = x := by
  unfold allV
  rw [List.mem_mergeSort, List.mem_map]
theorem all_len {c : ChV} {ns : List Str} (h : LegIn ns (lgOf c)) (lv : Int) (st go : Str) : (allV c lv st go).length ≤ 45927 := by
  unfold allV
  rw [List.length_mergeSort, List.length_map]
  exact dn_len h lv st go (k := 7) (by decide)
end Law


set_option Elab.async false
set_option linter.all false
set_option maxRecDepth 100000
set_option maxHeartbeats 1500000
set_option synthInstance.maxSize 4000
set_option synthInstance.maxHeartbeats 400000
/-! RqG: open legs, alternatives (k22). -/
namespace Law
open PySem L2 Evl Sk MP
local macro_rules | `(tactic| walk_at "sc") => `(tactic| first | omega | assumption | trivial | (with_reducible exact mulOk) | (with_reducible exact smOk) | (with_reducible exact ⟨by decide, smOk⟩) | (with_reducible exact ⟨by omega, smOk⟩) | decide | rfl | (simp only [List.length_cons, List.length_nil]; decide) | exact divOk (by omega))
theorem cut_len {α : Type} (xs : List α) (l h : Option Int) : (cutL xs l h).length ≤ xs.length := by
  unfold cutL
  rw [List.length_take, List.length_drop]
  omega
section
variable {P : Program} {w : World} {K : PySem.W.Frag} {mg : Str → Option Value} {base : Heap}
abbrev sp_open_legs (K : Fg) : Sp := spF K [] (fCons rChart (fCons rStr (fOne rInt))) (fun x => (lgOf x.1).length ≤ 1000) (rLst rLeg) fun x => opl (lgOf x.1) x.2.2 x.2.1
abbrev N_open_legs : List Str := ["chart", "start", "level", "leg"]
theorem sc_open_legs : FnScope N_open_legs ["chart", "start", "level"] (defScope s_open_legs) := ⟨rfl, rfl, rfl, by decide +kernel, rfl, by decide +kernel, by decide +kernel⟩
theorem ok_open_legs (N : Nm K mg) (T : Bt mg) : FnOk P w K mg base CX0 1 N.open_legs.f N.open_legs.fd ["chart", "start", "level"] (sp_open_legs K) := by
  refine fn_m N.open_legs.F sc_open_legs [] fun cdv A outer s G H E x Q fam hp hk => ?_
  obtain ⟨c, s, lv⟩ := x
  have hp : (lgOf c).length ≤ 1000 := hp
  have z1 : 100000 ≤ sizeLine := by decide
  have hk' : ∀ {Γ : Gm}, RT K ⟨[], _, G, H, []⟩ Γ [] (rLst rLeg) (((lgOf c).filter (opn lv s)).map fun l => l) _ := fun {Γ} => hk ⟨rfl, List.map_id' _⟩
  clear hk
  show DS _ K ⟨[], _, G, H, []⟩ [some ⟨rChart, c⟩, some ⟨rStr, s⟩, some ⟨rInt, lv⟩, none] [] (defBody s_open_legs) _
  refine s_ret (d_lcF (js := [3]) (ra := rLeg) (rb := rLeg) (f := fun l : Leg => l) (g := opn lv s) [("leg", 3)] [3] (fun _ => blkOk_by (N := N_open_legs) (sc := defScope s_open_legs) (by decide +kernel)) (w_lst (d_recP 0 1 rfl chN_nd ⟨rfl, Nat.le_trans hp (by omega), fun gg D ys l hl => (g_name 3 (dts_one (dt_then (x := opn lv s l) (dt_bool (dp_andP (x := decide (l.1 = s)) (dt_cmp (d_ix (d_var (ra := rLeg) (x := l) 3 (d_int (i_tup 0 (d_var (ra := rStr) (x := s) 1 (o_eqS ⟨rfl, rfl⟩))))))) (fun _ => dp_and1 (dt_chainP (d_ix (d_var (ra := rLeg) (x := l) 3 (d_int (i_tup 3 (d_var (ra := rInt) (x := lv) 2 (o_le ⟨rfl, rfl, fun _ => d_ix (d_var (ra := rLeg) (x := l) 3 (d_int (i_tup 4 (o_le ⟨rfl, rfl⟩))))⟩)))))))))) ⟨rfl, rfl, fun hb => d_var (ra := rLeg) (x := l) 3 ⟨rfl, rfl⟩⟩))), hk'⟩)))
abbrev sp_alternatives (T : List Addr) (K : Fg) : Sp := spF K T (fCons rChart (fCons rStr (fCons rStr (fCons rInt (fOne rInt))))) (fun x => (∃ m ns, ChQ x.1 m ns) ∧ (∃ p, valX (fxOf x.1) (Sum.inr x.2.1) = some p ∧ PtOk p) ∧ x.2.1 ≠ x.2.2.1) (rLst rRt) fun x => (cutL (allV x.1 x.2.2.2.1 x.2.1 x.2.2.1) none (some x.2.2.2.2)).map fun r => r.2.2
abbrev N_alternatives : List Str := ["chart", "start", "goal", "level", "count", "complete", "growing", "_", "longer", "route", "leg", "ranked"]
theorem sc_alternatives : FnScope N_alternatives ["chart", "start", "goal", "level", "count"] (defScope s_alternatives) := ⟨rfl, rfl, rfl, by decide +kernel, rfl, by decide +kernel, by decide +kernel⟩
theorem ok_alternatives (N : Nm K mg) (T : Bt mg) (Y : Tb0 N base) : FnOk P w K mg base CX0 5 N.alternatives.f N.alternatives.fd ["chart", "start", "goal", "level", "count"] (sp_alternatives (tsOf N) K) := by
  refine fn_m N.alternatives.F sc_alternatives (tsOf N) fun cdv A outer s G H E x Q fam hp hk => ?_
  obtain ⟨c, st, go, lv, cn⟩ := x
  obtain ⟨⟨m, ns, hc⟩, hs, hn⟩ := hp
  dsimp only at hc hs hn
  have hli := hc.li
  have hll := hc.ll
  have hco := hc.ok
  have hgo := fun k => grw_ok hco (lv := lv) hs hn (k := k)
  have hdo := dn_ok hco (lv := lv) hs hn (k := 7)
  have hal := all_len hli lv st go
  have z1 : 100000 ≤ sizeLine := by decide
  obtain ⟨t2, hM⟩ := T.MOST_SIMPLE
  have hk' : ∀ {Γ : Gm} {O : List Own}, RT K ⟨tsOf N, _, G, H, []⟩ Γ O (rLst rRt) ((cutL (allV c lv st go) none (some cn)).map fun r => r.2.2) _ := fun {Γ O} => rt_drop (hk ⟨rfl, rfl⟩)
  clear hk
  show DS _ K ⟨tsOf N, _, G, H, []⟩ [some ⟨rChart, c⟩, some ⟨rStr, st⟩, some ⟨rStr, go⟩, some ⟨rInt, lv⟩, some ⟨rInt, cn⟩, none, none, none, none, none, none, none] [] (defBody s_alternatives) _
  refine s_set 5 (d_lstO (ra := rRt) (da_all0 ⟨(by walk_at "sc"), fun q hq => ?_⟩))
  refine s_set 6 (d_lst (ra := rRt) (da_all (d_tpv (ra := rStr) (da_all (d_var (ra := rStr) (x := st) 1 (da_all0 ⟨(by walk_at "sc"), (da_all0 ⟨(by walk_at "sc"), ?_⟩)⟩))))))
  refine s_for (js := [7]) (w_rng1 T.range (d_bin (d_globI hM (d_int (o_sub ⟨by omega, ?_⟩)))))
  refine ⟨Nat, fun k d => d = k, fun d => [some ⟨rChart, c⟩, some ⟨rStr, st⟩, some ⟨rStr, go⟩, some ⟨rInt, lv⟩, some ⟨rInt, cn⟩, some ⟨rAdr, q⟩, some ⟨rLst rRt, grwV (lgOf c) lv st go d⟩, none, none, none, none, none], fun d => [⟨q, oLst rRt, dnV (lgOf c) lv st go d⟩], ⟨0, rfl, ⟨rfl, rfl, rfl, rfl, rfl, rfl, rfl, trivial⟩, rfl⟩, fun gg k x d hx hd => (g_name 7 ?_), fun d hd => ?_⟩
  · have hd : d = k := hd
    subst hd
    have hk6 : d < 7 := by have := (rgI_item hx).1; omega
    have hgr := hgo d
    have hgl := grw7 hli lv st go (k := d) (by omega)
    have hdl := dn_len hli lv st go (k := d) (by omega)
    have e1 : grwV (lgOf c) lv st go (d + 1) = (grwV (lgOf c) lv st go d).flatMap (lngV (lgOf c) lv go) := rfl
    have e2 : dnV (lgOf c) lv st go (d + 1) = dnV (lgOf c) lv st go d ++ (grwV (lgOf c) lv st go d).flatMap (cmpV (lgOf c) lv go) := rfl
    dsimp only
    generalize grwV (lgOf c) lv st go d = gs at e1 e2 hgr hgl ⊢
    generalize dnV (lgOf c) lv st go d = C0 at e2 hdl ⊢
    refine s_set 8 (d_lstO (ra := rRt) (da_all0 ⟨(by walk_at "sc"), fun p hp => ?_⟩))
    refine s_for (js := [9]) (w_lst (d_var (ra := rLst rRt) (x := gs) 6 ?_))
    refine ⟨List Rt × List Rt, fun i D => D.1 = C0 ++ (gs.take i).flatMap (cmpV (lgOf c) lv go) ∧ D.2 = (gs.take i).flatMap (lngV (lgOf c) lv go), fun _ => [some ⟨rChart, c⟩, some ⟨rStr, st⟩, some ⟨rStr, go⟩, some ⟨rInt, lv⟩, some ⟨rInt, cn⟩, some ⟨rAdr, q⟩, none, none, some ⟨rAdr, p⟩, none, none, none], fun D => [⟨p, oLst rRt, D.2⟩, ⟨q, oLst rRt, D.1⟩], ⟨(C0, []), ⟨by simp, rfl⟩, ⟨rfl, rfl, rfl, rfl, rfl, rfl, rfl, trivial⟩, rfl⟩, fun g2 i r D hx2 hD => (g_name 9 ?_), fun D hD => ?_⟩
    · obtain ⟨C, L⟩ := D
      obtain ⟨hC, hL⟩ := hD
      dsimp only at hC hL
      have hr := hgr r (List.mem_of_getElem? hx2)
      have hrl := hr.l
      have hi : i < gs.length := (List.getElem?_eq_some_iff.mp hx2).1
      have hCl : C.length ≤ 60000 := by
        have h1 := flm_len (xs := gs.take i) fun r _ => cmp_len hli lv go r
        rw [hC, List.length_append]
        rw [List.length_take] at h1
        omega
      have hLl : L.length ≤ 7000 := by
        have h1 := flm_len (xs := gs.take i) fun r _ => lng_len hli lv go r
        rw [List.length_take] at h1
        rw [hL]
        omega
      have ha : atI r (-1) = some (lst r) := atI_last (by
        rw [List.getLast?_eq_getElem?]
        exact at_get (by omega))
      have hol := op_len hli lv (lst r)
      refine s_for (js := [10]) (w_lst (d_call N.open_legs (ok_open_legs N T) (da_cons (d_var (ra := rChart) (x := c) 0 (da_cons (d_ix (d_var (ra := rRt) (x := r) 9 (d_un (d_int (u_neg (i_tpv ha (da_one (d_var (ra := rInt) (x := lv) 3 (sw_f (by dsimp only; omega) ?_))))))))))))))
      have ec : cmpV (lgOf c) lv go r = ((opl (lgOf c) lv (lst r)).filter (isG go)).map (xt r) := rfl
      have el : lngV (lgOf c) lv go r = ((opl (lgOf c) lv (lst r)).filter (isN go r)).map (xt r) := rfl
      dsimp only
      generalize opl (lgOf c) lv (lst r) = os at hol ec el ⊢
      refine ⟨List Rt × List Rt, fun j D => D.1 = C ++ ((os.take j).filter (isG go)).map (xt r) ∧ D.2 = L ++ ((os.take j).filter (isN go r)).map (xt r), fun _ => [some ⟨rChart, c⟩, some ⟨rStr, st⟩, some ⟨rStr, go⟩, some ⟨rInt, lv⟩, some ⟨rInt, cn⟩, some ⟨rAdr, q⟩, none, none, some ⟨rAdr, p⟩, some ⟨rRt, r⟩, none, none], fun D => [⟨p, oLst rRt, D.2⟩, ⟨q, oLst rRt, D.1⟩], ⟨(C, L), ⟨by simp, by simp⟩, ⟨rfl, rfl, rfl, rfl, rfl, rfl, rfl, rfl, trivial⟩, rfl⟩, fun g3 j l D hx3 hD => (g_name 10 ?_), fun D hD => ?_⟩
      · obtain ⟨C2, L2⟩ := D
        obtain ⟨hC2, hL2⟩ := hD
        dsimp only at hC2 hL2
        have hj : j < os.length := (List.getElem?_eq_some_iff.mp hx3).1
        have f1 := fm_take (f := xt r) (p := isG go) hx3
        have f2 := fm_take (f := xt r) (p := isN go r) hx3
        have hC2l : C2.length ≤ 60003 := by
          have := List.length_filter_le (isG go) (os.take j)
          rw [List.length_take] at this
          rw [hC2, List.length_append, List.length_map]
          omega
        have hL2l : L2.length ≤ 7003 := by
          have := List.length_filter_le (isN go r) (os.take j)
          rw [List.length_take] at this
          rw [hL2, List.length_append, List.length_map]
          omega
        have hrs : r.length + 1 ≤ sizeLine := by omega
        refine s_ifP (x := isG go l) (dt_cmp (d_ix (d_var (ra := rLeg) (x := l) 10 (d_int (i_tup 1 (d_var (ra := rStr) (x := go) 2 (o_eqS ⟨rfl, rfl⟩))))))) (fun hb => ?_) (fun hb => ?_)
        · have hg : l.2.1 = go := of_decide_eq_true hb
          rw [if_pos hb] at f1
          rw [if_neg (by show ¬ (!decide (l.2.1 = go) && _) = true; rw [decide_eq_true hg, Bool.not_true, Bool.false_and]; exact Bool.false_ne_true)] at f2
          refine s_expr (d_app (ra := rRt) (d_var (ra := rAdr) (x := q) 5 ⟨_, _, inferInstance, d_tpv (ra := rStr) (da_starT (d_var (ra := rRt) (x := r) 9 (da_all (d_var (ra := rStr) (x := go) 2 (da_all0 ⟨?_, ⟨_, _, inferInstance, ?_, ?_⟩⟩)))))⟩))
          · rw [List.length_append]; exact hrs
          · show C2.length < sizeLine
            omega
          · refine s_out (s_next (C2 ++ [r ++ [go]], L2) ⟨?_, ?_⟩ ⟨rfl, rfl, rfl, rfl, rfl, rfl, rfl, rfl, trivial⟩ rfl)
            · show C2 ++ [r ++ [go]] = _
              rw [f1, hC2, List.append_assoc, ← hg]
            · show L2 = _
              rw [f2, List.append_nil, hL2]
        · rw [if_neg (by rw [hb]; decide), List.append_nil] at f1
          have hg : decide (l.2.1 = go) = false := hb
          refine s_ifP (x := !decide (l.2.1 ∈ r)) (dt_cmp (d_ix (d_var (ra := rLeg) (x := l) 10 (d_int (i_tup 1 (d_var (ra := rRt) (x := r) 9 (o_notInT ⟨rfl, rfl⟩))))))) (fun hb2 => ?_) (fun hb2 => ?_)
          · rw [if_pos (by show (!decide (l.2.1 = go) && !decide (l.2.1 ∈ r)) = true; rw [hg, hb2]; rfl)] at f2
            refine s_expr (d_app (ra := rRt) (d_var (ra := rAdr) (x := p) 8 ⟨_, _, inferInstance, d_tpv (ra := rStr) (da_starT (d_var (ra := rRt) (x := r) 9 (da_all (d_ix (d_var (ra := rLeg) (x := l) 10 (d_int (i_tup 1 (da_all0 ⟨?_, ⟨_, _, inferInstance, ?_, ?_⟩⟩))))))))⟩))
            · rw [List.length_append]; exact hrs
            · show L2.length < sizeLine
              omega
            · refine s_out (s_out (s_next (C2, L2 ++ [r ++ [l.2.1]]) ⟨?_, ?_⟩ ⟨rfl, rfl, rfl, rfl, rfl, rfl, rfl, rfl, trivial⟩ rfl))
              · show C2 = _
                rw [f1, hC2]
              · show L2 ++ [r ++ [l.2.1]] = _
                rw [f2, hL2, List.append_assoc]
          · rw [if_neg (by show ¬ (!decide (l.2.1 = go) && !decide (l.2.1 ∈ r)) = true; rw [hb2, Bool.and_false]; decide), List.append_nil] at f2
            refine s_out (s_out (s_next (C2, L2) ⟨?_, ?_⟩ ⟨rfl, rfl, rfl, rfl, rfl, rfl, rfl, rfl, trivial⟩ rfl))
            · show C2 = _
              rw [f1, hC2]
            · show L2 = _
              rw [f2, hL2]
      · obtain ⟨C2, L2⟩ := D
        obtain ⟨hC2, hL2⟩ := hD
        dsimp only at hC2 hL2
        rw [List.take_length] at hC2 hL2
        refine s_next (C2, L2) ⟨?_, ?_⟩ ⟨rfl, rfl, rfl, rfl, rfl, rfl, rfl, trivial⟩ rfl
        · show C2 = _
          rw [flatMap_take hx2, ← List.append_assoc, ← hC, hC2, ec]
        · show L2 = _
          rw [flatMap_take hx2, ← hL, hL2, el]
    · obtain ⟨C, L⟩ := D
      obtain ⟨hC, hL⟩ := hD
      dsimp only at hC hL
      rw [List.take_length] at hC hL
      refine s_frz 8 hp ?_
      refine s_set 6 (d_var (ra := rLst rRt) (x := L) 8 ?_)
      rw [← e2] at hC
      rw [← e1] at hL
      subst hC hL
      exact s_next (d + 1) rfl ⟨rfl, rfl, rfl, rfl, rfl, rfl, rfl, trivial⟩ rfl
  · have hd : d = (rgI 0 1 ((8 : Int) - 1).toNat).length := hd
    rw [rgI_len] at hd
    have hd : d = 7 := hd
    subst hd
    have hdl := dn_len hli lv st go (k := 7) (by omega)
    have ea : allV c lv st go = ((dnV (lgOf c) lv st go 7).map (rk3 c)).mergeSort (PySem.W.dataLe false eRk3) := rfl
    rw [ea] at hal
    have hk2 : ∀ {Γ : Gm} {O : List Own}, RT K ⟨tsOf N, _, G, H, []⟩ Γ O (rLst rRt) ((cutL (((dnV (lgOf c) lv st go 7).map (rk3 c)).mergeSort (PySem.W.dataLe false eRk3)) none (some cn)).map fun r => r.2.2) _ := hk'
    clear ea hk'
    dsimp only
    generalize dnV (lgOf c) lv st go 7 = ds at hdl hdo hal hk2 ⊢
    refine s_frz 5 hq ?_
    refine s_set 11 (ra := rLst rRk3) (d_callB T.sorted bt_sorted (da_one (d_lcP (js := [9]) (ra := rRt) (rb := rRk3) (f := rk3 c) [("route", 9)] [9] (fun _ => blkOk_by (N := N_alternatives) (sc := defScope s_alternatives) (by decide +kernel)) (w_lst (d_var (ra := rLst rRt) (x := ds) 5 ⟨rfl, by omega, fun gg D ys r hr => ?_, c_sortX ?_⟩)))))
    · have hr := (hdo r hr).rt (by decide)
      refine g_name 9 (d_tup (da_cons (d_call N.route_length (ok_route_length N T Y) (da_cons (d_var (ra := rChart) (x := c) 0 (da_one (d_var (ra := rRt) (x := r) 9 (sw_f hr (da_cons (d_callB T.len bt_len (da_one (d_var (ra := rRt) (x := r) 9 (c_lenT (da_one (d_var (ra := rRt) (x := r) 9 ⟨rfl, rfl⟩)))))))))))))))
    generalize (ds.map (rk3 c)).mergeSort (PySem.W.dataLe false eRk3) = xs at hal hk2 ⊢
    refine s_ret (d_lcP (js := [7, 7, 9]) (ra := rRk3) (rb := rRt) (f := fun r : Rk3 => r.2.2) [("_", 7), ("route", 9)] [7, 9] (fun _ => blkOk_by (N := N_alternatives) (sc := defScope s_alternatives) (by decide +kernel)) (w_lst (d_slice (d_var (ra := rLst rRk3) (x := xs) 11 (do_no (do_at (d_var (ra := rInt) (x := cn) 4 (sl_l ⟨rfl, ?_, fun gg D ys r hr => ?_, hk2⟩))))))))
    · exact Nat.le_trans (cut_len _ _ _) (by omega)
    · refine g_tup (gs_cons (g_name 7 (gs_cons (g_name 7 (gs_one (g_name 9 (d_var (ra := rRt) (x := r.2.2) 9 ⟨rfl, rfl⟩)))))))
end
end Law


set_option Elab.async false
set_option linter.all false
set_option maxRecDepth 100000
set_option maxHeartbeats 1500000
set_option synthInstance.maxSize 4000
set_option synthInstance.maxHeartbeats 400000
/-! RqH: the law's own routes (k22). -/
namespace Law
open PySem L2 Evl Sk MP
local macro_rules | `(tactic| walk_at "sc") => `(tactic| first | omega | assumption | trivial | (with_reducible exact mulOk) | (with_reducible exact smOk) | (with_reducible exact ⟨by decide, smOk⟩) | (with_reducible exact ⟨by omega, smOk⟩) | decide | rfl | (simp only [List.length_cons, List.length_nil]; decide) | exact divOk (by omega))
/-- the sums are alike -/
theorem sum_eq {ch : ChV} {L : LnV} {r : List Str} (hL : LenOk ch L) (hr : RtV ch r) : sumO (lnP (fxOf ch)) (r.zip (r.drop 1)) = ((rgI 0 1 (r.length - 1)).map (ll1 L r)).sum := by
  have e0 : ∀ (xs : List (Str × Str)) (b : Int), xs.foldl (fun b x => b + lnP (fxOf ch) x) b = b + (xs.map (lnP (fxOf ch))).sum := by
    intro xs
    induction xs with
    | nil => intro b; exact (Int.add_zero b).symm
    | cons x xs ih => intro b; rw [List.foldl_cons, ih, List.map_cons, List.sum_cons, Int.add_assoc]
  unfold sumO
  rw [e0, Int.zero_add]
  congr 1
  refine List.ext_getElem? fun i => ?_
  by_cases h : i + 1 < r.length
  · have g1 : (r.zip (r.drop 1))[i]? = some (at_ r i, at_ r (i + 1)) := List.getElem?_zip_eq_some.mpr ⟨at_get (by omega), by rw [List.getElem?_drop, show 1 + i = i + 1 by omega]; exact at_get h⟩
    have g2 : (rgI 0 1 (r.length - 1))[i]? = some (i : Int) := by
      have hl : i < (rgI 0 1 (r.length - 1)).length := by rw [rgI_len]; omega
      have g := List.getElem?_eq_getElem hl
      obtain ⟨_, ex⟩ := rgI_item g
      rw [g, ex]
      congr 1
      omega
    rw [List.getElem?_map, List.getElem?_map, g1, g2]
    show some (ln (fxOf ch) (at_ r i) (at_ r (i + 1))) = some ((valX L (lkey (at_ r (i : Int).toNat) (at_ r ((i : Int).toNat + 1)))).getD 0)
    rw [Int.toNat_natCast, hL.at hr h]
    rfl
  · rw [List.getElem?_eq_none (by rw [List.length_map, List.length_zip, List.length_drop]; omega), List.getElem?_eq_none (by rw [List.length_map, rgI_len]; omega)]
theorem last_at {r : List Str} (h : 1 ≤ r.length) : atI r ((r.length : Int) - 1) = some (lst r) := by
  rw [show (r.length : Int) - 1 = ((r.length - 1 : Nat) : Int) by omega]
  exact atI_nat' (at_get (by omega))
section
variable {P : Program} {w : World} {K : PySem.W.Frag} {mg : Str → Option Value} {base : Heap}
abbrev sp_routes (K : Fg) : Sp := spF K [] (fCons rChart (fCons rStr (fCons rStr (fOne rInt)))) (fun x => (∃ m ns, ChQ x.1 m ns) ∧ (∃ p, valX (fxOf x.1) (Sum.inr x.2.1) = some p ∧ PtOk p) ∧ x.2.1 ≠ x.2.2.1) (rLst rRt) fun x => (allV x.1 x.2.2.2 x.2.1 x.2.2.1).map fun r => r.2.2
abbrev N_routes : List Str := ["_law_chart_here", "_law_start_here", "_law_goal", "_law_level", "_law_found", "_law_routes_here", "_law_step", "_law_longer", "_law_route", "_law_leg_here", "_law_lengths_here", "_law_each"]
theorem sc_routes : FnScope N_routes ["_law_chart_here", "_law_start_here", "_law_goal", "_law_level"] (defScope s_routes) := ⟨rfl, rfl, rfl, by decide +kernel, rfl, by decide +kernel, by decide +kernel⟩
theorem ok_routes (N : Nm K mg) (T : Bt mg) : FnOk P w K mg base CX0 3 N.routes.f N.routes.fd ["_law_chart_here", "_law_start_here", "_law_goal", "_law_level"] (sp_routes K) := by
  refine fn_m N.routes.F sc_routes [] fun cdv A outer s G H E x Q fam hp hk => ?_
  obtain ⟨c, st, go, lv⟩ := x
  obtain ⟨⟨m, ns, hc⟩, hs, hn⟩ := hp
  dsimp only at hc hs hn
  have hli := hc.li
  have hll := hc.ll
  have hco := hc.ok
  have hgo := fun k => grw_ok hco (lv := lv) hs hn (k := k)
  have hdo := dn_ok hco (lv := lv) hs hn (k := 7)
  have hal := all_len hli lv st go
  have z1 : 100000 ≤ sizeLine := by decide
  have hk' : ∀ {Γ : Gm} {O : List Own}, RT K ⟨[], _, G, H, []⟩ Γ O (rLst rRt) ((allV c lv st go).map fun r => r.2.2) _ := fun {Γ O} => rt_drop (hk ⟨rfl, rfl⟩)
  clear hk
  show DS _ K ⟨[], _, G, H, []⟩ [some ⟨rChart, c⟩, some ⟨rStr, st⟩, some ⟨rStr, go⟩, some ⟨rInt, lv⟩, none, none, none, none, none, none, none, none] [] (defBody s_routes) _
  refine s_set 4 (d_lstO (ra := rRt) (da_all0 ⟨(by walk_at "sc"), fun q hq => ?_⟩))
  refine s_set 5 (d_lst (ra := rRt) (da_all (d_tpv (ra := rStr) (da_all (d_var (ra := rStr) (x := st) 1 (da_all0 ⟨(by walk_at "sc"), (da_all0 ⟨(by walk_at "sc"), ?_⟩)⟩))))))
  refine s_for (js := [6]) (w_rng1 T.range (d_int ⟨by omega, ?_⟩))
  refine ⟨Nat, fun k d => d = k, fun d => [some ⟨rChart, c⟩, some ⟨rStr, st⟩, some ⟨rStr, go⟩, some ⟨rInt, lv⟩, some ⟨rAdr, q⟩, some ⟨rLst rRt, grwV (lgOf c) lv st go d⟩, none, none, none, none, none, none], fun d => [⟨q, oLst rRt, dnV (lgOf c) lv st go d⟩], ⟨0, rfl, ⟨rfl, rfl, rfl, rfl, rfl, rfl, trivial⟩, rfl⟩, fun gg k x d hx hd => (g_name 6 ?_), fun d hd => ?_⟩
  · have hd : d = k := hd
    subst hd
    have hk6 : d < 7 := by have := (rgI_item hx).1; omega
    have hgr := hgo d
    have hgl := grw7 hli lv st go (k := d) (by omega)
    have hdl := dn_len hli lv st go (k := d) (by omega)
    have e1 : grwV (lgOf c) lv st go (d + 1) = (grwV (lgOf c) lv st go d).flatMap (lngV (lgOf c) lv go) := rfl
    have e2 : dnV (lgOf c) lv st go (d + 1) = dnV (lgOf c) lv st go d ++ (grwV (lgOf c) lv st go d).flatMap (cmpV (lgOf c) lv go) := rfl
    dsimp only
    have y1 : ((grwV (lgOf c) lv st go d).flatMap (lwV (lgOf c) lv)).filter (fun q => decide (lst q = go)) = (grwV (lgOf c) lv st go d).flatMap (cmpV (lgOf c) lv go) := flt_flm fun r hr => lw_cmp (hgr r hr).g
    have y2 : ((grwV (lgOf c) lv st go d).flatMap (lwV (lgOf c) lv)).filter (fun q => !decide (lst q = go)) = (grwV (lgOf c) lv st go d).flatMap (lngV (lgOf c) lv go) := flt_flm fun r hr => lw_lng
    rw [← y1] at e2
    rw [← y2] at e1
    clear y1 y2
    generalize grwV (lgOf c) lv st go d = gs at e1 e2 hgr hgl ⊢
    generalize dnV (lgOf c) lv st go d = C0 at e2 hdl ⊢
    refine s_set 7 (d_lstO (ra := rRt) (da_all0 ⟨(by walk_at "sc"), fun p hp => ?_⟩))
    refine s_for (js := [8]) (w_lst (d_var (ra := rLst rRt) (x := gs) 5 ?_))
    refine ⟨List Rt, fun i D => D = (gs.take i).flatMap (lwV (lgOf c) lv), fun _ => [some ⟨rChart, c⟩, some ⟨rStr, st⟩, some ⟨rStr, go⟩, some ⟨rInt, lv⟩, some ⟨rAdr, q⟩, none, none, some ⟨rAdr, p⟩, none, none, none, none], fun D => [⟨p, oLst rRt, D⟩, ⟨q, oLst rRt, C0⟩], ⟨[], rfl, ⟨rfl, rfl, rfl, rfl, rfl, rfl, trivial⟩, rfl⟩, fun g2 i r L hx2 hL => (g_name 8 ?_), fun L hL => ?_⟩
    · have hL : L = (gs.take i).flatMap (lwV (lgOf c) lv) := hL
      have hr := hgr r (List.mem_of_getElem? hx2)
      have hrl := hr.l
      have hi : i < gs.length := (List.getElem?_eq_some_iff.mp hx2).1
      have hLl : L.length ≤ 7000 := by
        have h1 := flm_len (xs := gs.take i) fun r _ => lw_len hli lv r
        rw [List.length_take] at h1
        rw [hL]
        omega
      have ha := last_at (r := r) (by omega)
      refine s_for (js := [9]) (w_lst (d_recP 0 1 rfl chN_nd ?_))
      have el : lwV (lgOf c) lv r = ((lgOf c).filter (lwO lv r)).map (xt r) := rfl
      refine ⟨List Rt, fun j D => D = L ++ (((lgOf c).take j).filter (lwO lv r)).map (xt r), fun _ => [some ⟨rChart, c⟩, some ⟨rStr, st⟩, some ⟨rStr, go⟩, some ⟨rInt, lv⟩, some ⟨rAdr, q⟩, none, none, some ⟨rAdr, p⟩, some ⟨rRt, r⟩, none, none, none], fun D => [⟨p, oLst rRt, D⟩, ⟨q, oLst rRt, C0⟩], ⟨L, by simp, ⟨rfl, rfl, rfl, rfl, rfl, rfl, rfl, trivial⟩, rfl⟩, fun g3 j l D hx3 hD => (g_name 9 ?_), fun D hD => ?_⟩
      · have hD : D = L ++ (((lgOf c).take j).filter (lwO lv r)).map (xt r) := hD
        have f2 := fm_take (f := xt r) (p := lwO lv r) hx3
        have hDl : D.length ≤ 7100 := by
          have := List.length_filter_le (lwO lv r) ((lgOf c).take j)
          rw [List.length_take] at this
          rw [hD, List.length_append, List.length_map]
          omega
        have hrs : r.length + 1 ≤ sizeLine := by omega
        refine s_ifP (x := lwO lv r l) (dt_bool (dp_andP (x := decide (l.1 = lst r)) (dt_cmp (d_ix (d_var (ra := rLeg) (x := l) 9 (d_int (i_tup 0 (d_ix (d_var (ra := rRt) (x := r) 8 (d_bin (d_callB T.len bt_len (da_one (d_var (ra := rRt) (x := r) 8 (c_lenT (d_int (o_sub (i_tpv ha (o_eqS ⟨rfl, rfl⟩)))))))))))))))) (fun _ => dp_andP (x := decide (l.2.2.2.1 ≤ lv) && decide (lv ≤ l.2.2.2.2)) (dt_chainP (d_ix (d_var (ra := rLeg) (x := l) 9 (d_int (i_tup 3 (d_var (ra := rInt) (x := lv) 3 (o_le ⟨rfl, rfl, fun _ => d_ix (d_var (ra := rLeg) (x := l) 9 (d_int (i_tup 4 (o_le ⟨rfl, rfl⟩))))⟩)))))))  (fun _ => dp_and1 (dt_cmp (d_ix (d_var (ra := rLeg) (x := l) 9 (d_int (i_tup 1 (d_var (ra := rRt) (x := r) 8 (o_notInT ⟨rfl, rfl⟩))))))))))) (fun hb => ?_) (fun hb => ?_)
        · rw [if_pos hb] at f2
          refine s_expr (d_app (ra := rRt) (d_var (ra := rAdr) (x := p) 7 ⟨_, _, inferInstance, d_bin (d_var (ra := rRt) (x := r) 8 (d_tpv (ra := rStr) (da_all (d_ix (d_var (ra := rLeg) (x := l) 9 (d_int (i_tup 1 (da_all0 ⟨(by walk_at "sc"), o_catT ?_ ?_ ?_ ⟨_, _, inferInstance, ?_, ?_⟩⟩))))))))⟩))
          · intro e; rw [e] at hrl; cases hrl
          · exact List.cons_ne_nil _ _
          · exact hrs
          · show D.length < sizeLine
            omega
          · refine s_out (s_next (D ++ [r ++ [l.2.1]]) ?_ ⟨rfl, rfl, rfl, rfl, rfl, rfl, rfl, trivial⟩ rfl)
            show D ++ [r ++ [l.2.1]] = _
            rw [f2, hD, List.append_assoc]
        · rw [if_neg (by rw [hb]; exact Bool.false_ne_true), List.append_nil] at f2
          refine s_out (s_next D ?_ ⟨rfl, rfl, rfl, rfl, rfl, rfl, rfl, trivial⟩ rfl)
          show D = _
          rw [f2, hD]
      · have hD : D = L ++ (((lgOf c).take (lgOf c).length).filter (lwO lv r)).map (xt r) := hD
        rw [List.take_length] at hD
        refine s_next D ?_ ⟨rfl, rfl, rfl, rfl, rfl, rfl, trivial⟩ rfl
        show D = _
        rw [flatMap_take hx2, ← hL, hD, el]
    · have hL : L = (gs.take gs.length).flatMap (lwV (lgOf c) lv) := hL
      rw [List.take_length] at hL
      have hLl : L.length ≤ 7000 := by
        have h1 := flm_len (xs := gs) fun r _ => lw_len hli lv r
        rw [hL]
        omega
      have hLr : ∀ r ∈ L, 1 ≤ r.length := fun r hr => by
        rw [hL] at hr
        obtain ⟨g, _, hg⟩ := List.mem_flatMap.mp hr
        obtain ⟨l, _, e⟩ := List.mem_map.mp hg
        rw [← e]
        show 1 ≤ (g ++ [l.2.1]).length
        rw [List.length_append]
        exact Nat.le_add_left _ _
      rw [← hL] at e1 e2
      clear hL
      refine s_frz 7 hp ?_
      refine s_expr (d_ext (rc := rRt) (d_var (ra := rAdr) (x := q) 4 ⟨_, _, inferInstance, d_lcF (js := [8]) (ra := rRt) (rb := rRt) (f := fun r : Rt => r) (g := fun q => decide (lst q = go)) [("_law_route", 8)] [8] (fun _ => blkOk_by (N := N_routes) (sc := defScope s_routes) (by decide +kernel)) (w_lst (d_var (ra := rLst rRt) (x := L) 7 ⟨rfl, by omega, fun gg D ys r hr => ?_, _, _, _, inferInstance, inferInstance, ?_, ?_⟩))⟩))
      · have ha := last_at (hLr r hr)
        refine g_name 8 (dts_one (dt_then (x := decide (lst r = go)) (dt_cmp (d_ix (d_var (ra := rRt) (x := r) 8 (d_bin (d_callB T.len bt_len (da_one (d_var (ra := rRt) (x := r) 8 (c_lenT (d_int (o_sub (i_tpv ha (d_var (ra := rStr) (x := go) 2 (o_eqS ⟨rfl, rfl⟩))))))))))))) ⟨rfl, rfl, fun hb => d_var (ra := rRt) (x := r) 8 ⟨rfl, rfl⟩⟩))
      · have := List.length_filter_le (fun q => decide (lst q = go)) L
        rw [List.length_map]
        show C0.length + (L.filter fun q => decide (lst q = go)).length ≤ _
        omega
      rw [List.map_id']
      refine s_lcF 5 (js := [8]) (ra := rRt) (rb := rRt) (f := fun r : Rt => r) (g := fun q => !decide (lst q = go)) [("_law_route", 8)] [8] (fun _ => blkOk_by (N := N_routes) (sc := defScope s_routes) (by decide +kernel)) (w_lst (d_var (ra := rLst rRt) (x := L) 7 ⟨rfl, by omega, fun gg D ys r hr => ?_, ?_⟩))
      · have ha := last_at (hLr r hr)
        refine g_name 8 (dts_one (dt_then (x := !decide (lst r = go)) (dt_cmp (d_ix (d_var (ra := rRt) (x := r) 8 (d_bin (d_callB T.len bt_len (da_one (d_var (ra := rRt) (x := r) 8 (c_lenT (d_int (o_sub (i_tpv ha (d_var (ra := rStr) (x := go) 2 (o_neS ⟨rfl, rfl⟩))))))))))))) ⟨rfl, rfl, fun hb => d_var (ra := rRt) (x := r) 8 ⟨rfl, rfl⟩⟩))
      rw [List.map_id', ← e1]
      refine s_next (d + 1) rfl ⟨rfl, rfl, rfl, rfl, rfl, rfl, trivial⟩ ?_
      rw [e2]
  · have hd : d = (rgI 0 1 ((7 : Int)).toNat).length := hd
    rw [rgI_len] at hd
    have hd : d = 7 := hd
    subst hd
    have hdl := dn_len hli lv st go (k := 7) (by omega)
    have ea : allV c lv st go = ((dnV (lgOf c) lv st go 7).map (rk3 c)).mergeSort (PySem.W.dataLe false eRk3) := rfl
    rw [ea] at hal
    have hk2 : ∀ {Γ : Gm} {O : List Own}, RT K ⟨[], _, G, H, []⟩ Γ O (rLst rRt) ((((dnV (lgOf c) lv st go 7).map (rk3 c)).mergeSort (PySem.W.dataLe false eRk3)).map fun r => r.2.2) _ := hk'
    clear ea hk'
    dsimp only
    generalize dnV (lgOf c) lv st go 7 = ds at hdl hdo hal hk2 ⊢
    refine s_frz 4 hq ?_
    refine s_set 10 (d_call N.lengths (ok_lengths N T) (da_one (d_var (ra := rChart) (x := c) 0 (sw_0 hco (fun L hL => ?_)))))
    have hL : LenOk c L := hL
    refine s_ret (d_lcP (js := [11]) (ra := rRk3) (rb := rRt) (f := fun r : Rk3 => r.2.2) [("_law_each", 11)] [11] (fun _ => blkOk_by (N := N_routes) (sc := defScope s_routes) (by decide +kernel)) (w_lst (ra := rRk3) (d_callB T.sorted bt_sorted (da_one (d_lcP (js := [8]) (ra := rRt) (rb := rRk3) (f := rk3 c) [("_law_route", 8)] [8] (fun _ => blkOk_by (N := N_routes) (sc := defScope s_routes) (by decide +kernel)) (w_lst (d_var (ra := rLst rRt) (x := ds) 4 ⟨rfl, by omega, fun gg D ys r hr => ?_, c_sortX ⟨rfl, ?_, fun gg D ys r hr => ?_, hk2⟩⟩)))))))
    · have hr := (hdo r hr).rt (by decide)
      have h2 := hr.two
      have h3 := hr.len
      refine g_name 8 (d_tup (da_cons (d_call N.law_route_length (ok_law_route_length N T) (da_cons (d_var (ra := rDt rInt) (x := L) 10 (da_one (d_var (ra := rRt) (x := r) 8 (sw_f ⟨⟨h2, h3⟩, fun k hk => ⟨_, hL.at hr hk⟩⟩ (da_cons (d_callB T.len bt_len (da_one (d_var (ra := rRt) (x := r) 8 (c_lenT (da_one (d_var (ra := rRt) (x := r) 8 ⟨?_, rfl⟩)))))))))))))))
      show (_, _, _) = (_, _, _)
      rw [sum_eq hL hr]
    · exact Nat.le_trans hal (by omega)
    · exact g_name 11 (d_ix (d_var (ra := rRk3) (x := r) 11 (d_int (i_tup 2 ⟨rfl, rfl⟩))))
end
end Law


set_option Elab.async false
set_option linter.all false
set_option maxRecDepth 100000
set_option maxHeartbeats 1500000
set_option synthInstance.maxSize 4000
set_option synthInstance.maxHeartbeats 400000
/-! RqI: possible routes, menus (k22). -/
namespace Law
open PySem L2 Evl Sk MP
local macro_rules | `(tactic| walk_at "sc") => `(tactic| first | omega | assumption | trivial | (with_reducible exact mulOk) | (with_reducible exact smOk) | (with_reducible exact ⟨by decide, smOk⟩) | (with_reducible exact ⟨by omega, smOk⟩) | decide | rfl | (simp only [List.length_cons, List.length_nil]; decide) | exact divOk (by omega))
def difV (a b : Int) : List Int := if a = b then [a] else [a, b]
theorem dif_len (a b : Int) : (difV a b).length ≤ 2 := by
  unfold difV
  split
  · exact (by decide : 1 ≤ 2)
  · exact Nat.le_refl 2
abbrev lp1 (x : List Str ⊕ (Str × Str × Int)) : List Rt := match x with | .inl y => [y] | .inr _ => []
theorem lp1_len (x : List Str ⊕ (Str × Str × Int)) : (lp1 x).length ≤ 1 := by
  cases x
  · exact Nat.le_refl 1
  · exact Nat.zero_le 1
def lpsV (c : ChV) (r : Rt) : List Rt := [(0 : Int), 1].flatMap fun n => lp1 (loopV (hoOf c) r n)
theorem lps_len (c : ChV) (r : Rt) : (lpsV c r).length ≤ 2 := by
  unfold lpsV
  have h := lp1_len
  have := flm_len (xs := [(0 : Int), 1]) fun n _ => h (loopV (hoOf c) r n)
  exact this
abbrev altV (c : ChV) (q : Rq) : List Rt := (cutL (allV c q.2.2.2.2.1 q.2.2.1 q.2.2.2.1) none (some 2)).map fun r => r.2.2
def prsV (c : ChV) (q : Rq) : List Rt := (altV c q).flatMap (lpsV c)
abbrev Crs := Rt × Int × Int
abbrev rCrs : Rp Crs := rTup (fCons rRt (fCons rInt (fOne rInt)))
abbrev Op := Crs × Int
abbrev rOp : Rp Op := rTup (fCons rCrs (fOne rInt))
abbrev spV (q : Rq) : List Int := difV q.2.1.2.2.1 q.2.1.2.1
abbrev tgV (q : Rq) : List Int := difV q.2.2.2.2.2.1 q.2.2.2.2.1
abbrev mn3 (e : Int) (r : Rt) (t sp : Int) : Op := ((r, sp, t), e)
def mn2 (q : Rq) (e : Int) (r : Rt) (t : Int) : List Op := (spV q).map (mn3 e r t)
def mn1 (q : Rq) (e : Int) (r : Rt) : List Op := (tgV q).flatMap (mn2 q e r)
def mn0 (q : Rq) (rs : List Rt) (e : Int) : List Op := rs.flatMap (mn1 q e)
def mnV (q : Rq) (rs : List Rt) : List Op := [(0 : Int), 8].flatMap fun d => mn0 q rs (q.2.2.2.2.2.2.1 + d)
theorem mn2_len (q : Rq) (e : Int) (r : Rt) (t : Int) : (mn2 q e r t).length ≤ 2 := by
  unfold mn2
  rw [List.length_map]
  exact dif_len _ _
theorem mn1_len (q : Rq) (e : Int) (r : Rt) : (mn1 q e r).length ≤ 4 := by
  have h := flm_len (xs := tgV q) fun t _ => mn2_len q e r t
  have h2 : (tgV q).length ≤ 2 := dif_len _ _
  show ((tgV q).flatMap (mn2 q e r)).length ≤ 4
  omega
theorem mn0_len (q : Rq) (rs : List Rt) (e : Int) : (mn0 q rs e).length ≤ rs.length * 4 := flm_len fun r _ => mn1_len q e r
theorem alt_len (c : ChV) (q : Rq) : (altV c q).length ≤ 2 := by
  rw [List.length_map]
  unfold cutL
  rw [List.length_take]
  have e : HT.sIx (allV c q.2.2.2.2.1 q.2.2.1 q.2.2.2.1).length (allV c q.2.2.2.2.1 q.2.2.1 q.2.2.2.1).length (some (2 : Int)) ≤ 2 := by
    generalize (allV c q.2.2.2.2.1 q.2.2.1 q.2.2.2.1).length = n
    show (if (2 : Int) < 0 then ((2 : Int) + (n : Int)).toNat else min (2 : Int).toNat n) ≤ 2
    rw [if_neg (by decide)]
    exact Nat.min_le_left _ _
  omega
theorem prs_len (c : ChV) (q : Rq) : (prsV c q).length ≤ 4 := by
  have h := flm_len (xs := altV c q) fun r _ => lps_len c r
  have h2 := alt_len c q
  show ((altV c q).flatMap (lpsV c)).length ≤ 4
  omega
theorem cut_mem {α : Type} {xs : List α} {l h : Option Int} {x : α} (m : x ∈ cutL xs l h) : x ∈ xs := List.mem_of_mem_drop (List.mem_of_mem_take m)
/-- a request that is asked for routes -/
structure RqR (c : ChV) (q : Rq) : Prop where
  w : ∃ m ns, ChQ c m ns
  s : ∃ p, valX (fxOf c) (Sum.inr q.2.2.1) = some p ∧ PtOk p
  n : q.2.2.1 ≠ q.2.2.2.1
theorem all_ok {c : ChV} {q : Rq} (h : RqR c q) {x : Rk3} (hx : x ∈ allV c q.2.2.2.2.1 q.2.2.1 q.2.2.2.1) : 2 ≤ x.2.2.length ∧ x.2.2.length ≤ 8 := by
  obtain ⟨⟨m, ns, hc⟩, hs, hn⟩ := h
  obtain ⟨r, hr, e⟩ := all_mem.mp hx
  have := dn_ok hc.ok hs hn r hr
  subst e
  exact ⟨this.l, this.m⟩
theorem alt_ok {c : ChV} {q : Rq} (h : RqR c q) {r : Rt} (hr : r ∈ altV c q) : 2 ≤ r.length ∧ r.length ≤ 8 := by
  obtain ⟨x, hx, e⟩ := List.mem_map.mp hr
  rw [← e]
  exact all_ok h (cut_mem hx)
section
variable {P : Program} {w : World} {K : PySem.W.Frag} {mg : Str → Option Value} {base : Heap}
abbrev sp_different (K : Fg) : Sp := spF K [] (fCons rInt (fOne rInt)) (fun _ => True) (rLst rInt) fun x => difV x.1 x.2
abbrev N_different : List Str := ["first", "second"]
theorem sc_different : FnScope N_different ["first", "second"] (defScope s_different) := ⟨rfl, rfl, rfl, by decide +kernel, rfl, by decide +kernel, by decide +kernel⟩
theorem ok_different (N : Nm K mg) (T : Bt mg) : FnOk P w K mg base CX0 1 N.different.f N.different.fd ["first", "second"] (sp_different K) := by
  refine fn_m N.different.F sc_different [] fun cdv A outer s G H E x Q fam hp hk => ?_
  obtain ⟨a, b⟩ := x
  have hk' : ∀ {Γ : Gm} {y : List Int}, difV a b = y → RT K ⟨[], _, G, H, []⟩ Γ [] (rLst rInt) y _ := fun {Γ y} e => hk ⟨rfl, e.symm⟩
  clear hk
  show DS _ K ⟨[], _, G, H, []⟩ [some ⟨rInt, a⟩, some ⟨rInt, b⟩] [] (defBody s_different) _
  refine s_ret (d_iteP (x := decide (a = b)) (dt_cmp (d_var (ra := rInt) (x := a) 0 (d_var (ra := rInt) (x := b) 1 (o_eqI ⟨rfl, rfl⟩)))) (fun hb => (d_lst (ra := rInt) (da_all (d_var (ra := rInt) (x := a) 0 (da_all0 ⟨(by walk_at "sc"), hk' ?_⟩))))) (fun hb => (d_lst (ra := rInt) (da_all (d_var (ra := rInt) (x := a) 0 (da_all (d_var (ra := rInt) (x := b) 1 (da_all0 ⟨(by walk_at "sc"), hk' ?_⟩))))))))
  · exact if_pos (of_decide_eq_true hb)
  · exact if_neg (of_decide_eq_false hb)
abbrev sp_possible_routes (T : List Addr) (K : Fg) : Sp := spF K T (fCons rChart (fOne rRq)) (fun x => RqR x.1 x.2) (rLst rRt) fun x => prsV x.1 x.2
abbrev N_possible_routes : List Str := ["chart", "request", "_", "start", "goal", "level", "routes", "route", "loops"]
theorem sc_possible_routes : FnScope N_possible_routes ["chart", "request"] (defScope s_possible_routes) := ⟨rfl, rfl, rfl, by decide +kernel, rfl, by decide +kernel, by decide +kernel⟩
theorem ok_possible_routes (N : Nm K mg) (T : Bt mg) (Y : Tb0 N base) (hP : P.main = pM) : FnOk P w K mg base CX0 6 N.possible_routes.f N.possible_routes.fd ["chart", "request"] (sp_possible_routes (tsOf N) K) := by
  refine fn_m N.possible_routes.F sc_possible_routes (tsOf N) fun cdv A outer s G H E x Q fam hp hk => ?_
  obtain ⟨c, q⟩ := x
  have hp : RqR c q := hp
  have hpc := hp.w
  have hps := hp.s
  have hpn := hp.n
  have hao := fun r (hr : r ∈ altV c q) => alt_ok hp hr
  have hal := alt_len c q
  have z1 : 100000 ≤ sizeLine := by decide
  obtain ⟨t1, hR⟩ := T.ROUTES
  obtain ⟨u, hu, hru, hcu⟩ := N.kLOOPS
  have hk' : ∀ {Γ : Gm}, RT K ⟨tsOf N, _, G, H, []⟩ Γ [] (rLst rRt) (prsV c q) _ := fun {Γ} => hk ⟨rfl, rfl⟩
  clear hk
  obtain ⟨fl, kd, st, go, lv, wa, tk, la⟩ := q
  dsimp only at hps hpn
  show DS _ K ⟨tsOf N, _, G, H, []⟩ [some ⟨rChart, c⟩, some ⟨rRq, (fl, kd, st, go, lv, wa, tk, la)⟩, none, none, none, none, none, none, none] [] (defBody s_possible_routes) _
  refine s_asg (js := [2, 2, 3, 4, 5, 2, 2, 2]) (ra := rRq) (d_var 1 (g_tup (gs_cons (g_name 2 (gs_cons (g_name 2 (gs_cons (g_name 3 (gs_cons (g_name 4 (gs_cons (g_name 5 (gs_cons (g_name 2 (gs_cons (g_name 2 (gs_one (g_name 2 ?_))))))))))))))))))
  dsimp only
  refine s_set 6 (d_lstO (ra := rRt) (da_all0 ⟨(by walk_at "sc"), fun p hp => ?_⟩))
  refine s_for (js := [7]) (w_lst (d_call N.alternatives (ok_alternatives N T Y) (da_cons (d_var (ra := rChart) (x := c) 0 (da_cons (d_var (ra := rStr) (x := st) 3 (da_cons (d_var (ra := rStr) (x := go) 4 (da_cons (d_var (ra := rInt) (x := lv) 5 (da_one (d_globI hR (sw_f ⟨hpc, hps, hpn⟩ ?_)))))))))))))
  have ep : prsV c (fl, kd, st, go, lv, wa, tk, la) = (altV c (fl, kd, st, go, lv, wa, tk, la)).flatMap (lpsV c) := rfl
  show ∃ (δ : Type), _
  generalize hal2 : altV c (fl, kd, st, go, lv, wa, tk, la) = as at hao hal ep
  have hal2 : (cutL (allV c lv st go) none (some 2)).map (fun r => r.2.2) = as := hal2
  dsimp only
  rw [hal2]
  refine ⟨List Rt, fun i D => D = (as.take i).flatMap (lpsV c), fun _ => [some ⟨rChart, c⟩, none, none, none, none, none, some ⟨rAdr, p⟩, none, none], fun D => [⟨p, oLst rRt, D⟩], ⟨[], rfl, ⟨rfl, rfl, trivial⟩, rfl⟩, fun g2 i r D hx2 hD => (g_name 7 ?_), fun D hD => ?_⟩
  · have hD : D = (as.take i).flatMap (lpsV c) := hD
    obtain ⟨hr2, hr8⟩ := hao r (List.mem_of_getElem? hx2)
    have hDl : D.length ≤ 4 := by
      have h1 := flm_len (xs := as.take i) fun r _ => lps_len c r
      rw [List.length_take] at h1
      rw [hD]
      omega
    have el : lpsV c r = [(0 : Int), 1].flatMap fun n => lp1 (loopV (hoOf c) r n) := rfl
    refine s_for (js := [8]) (w_tpv (ra := rInt) (d_glob hu hru (cdi_rep (xs := [0, 1]) hcu) ?_))
    refine ⟨List Rt, fun j E => E = D ++ (([(0 : Int), 1].take j).flatMap fun n => lp1 (loopV (hoOf c) r n)), fun _ => [some ⟨rChart, c⟩, none, none, none, none, none, some ⟨rAdr, p⟩, some ⟨rRt, r⟩, none], fun E => [⟨p, oLst rRt, E⟩], ⟨D, by simp, ⟨rfl, rfl, rfl, trivial⟩, rfl⟩, fun g3 j n E hx3 hE => (g_name 8 ?_), fun E hE => ?_⟩
    · have hE : E = D ++ (([(0 : Int), 1].take j).flatMap fun n => lp1 (loopV (hoOf c) r n)) := hE
      have ft := flatMap_take (f := fun n => lp1 (loopV (hoOf c) r n)) hx3
      have hn01 : 0 ≤ n ∧ n ≤ 10 := by
        have hm := List.mem_of_getElem? hx3
        simp only [List.mem_cons, List.not_mem_nil, or_false] at hm
        omega
      have hEl : E.length ≤ 6 := by
        have h := lp1_len
        have h2 := flm_len (xs := [(0 : Int), 1].take j) fun n _ => h (loopV (hoOf c) r n)
        rw [List.length_take] at h2
        have h3 : [(0 : Int), 1].length = 2 := rfl
        rw [hE, List.length_append]
        omega
      refine s_tryCt (by rfl) (by rfl) (by exact ⟨rfl, by decide, Or.inl N.xRouteError.m⟩) (d_app (ra := rRt) (d_var (ra := rAdr) (x := p) 6 ⟨_, _, inferInstance, d_callX ft_tk N.with_loops (ok_with_loops N T hP) (da_cons (d_var (ra := rChart) (x := c) 0 (da_cons (d_var (ra := rRt) (x := r) 7 (da_one (d_var (ra := rInt) (x := n) 8 (sw_0X ⟨⟨hr2, by dsimp only; omega⟩, hn01.1, hn01.2⟩ (fun y hy => ⟨_, _, inferInstance, ?_, ?_⟩) (fun C fl hxe => ?_))))))))⟩))
      · show E.length < sizeLine
        omega
      · have hy : loopV (hoOf c) r n = .inl y := hy
        refine s_next (E ++ [y]) ?_ ⟨rfl, rfl, rfl, trivial⟩ rfl
        show E ++ [y] = _
        rw [ft, hE, List.append_assoc, hy]
      · obtain ⟨eC, d, efl, herr⟩ := hxe
        subst eC efl
        refine xt_ct N.xRouteError.xm fun σ G H W => ⟨E, G, ?_, W.wk ⟨rfl, rfl, rfl, trivial⟩⟩
        show E = _
        rw [ft, herr, hE, List.append_nil]
    · have hE : E = D ++ (([(0 : Int), 1].take 2).flatMap fun n => lp1 (loopV (hoOf c) r n)) := hE
      refine s_next E ?_ ⟨rfl, rfl, trivial⟩ rfl
      show E = _
      rw [flatMap_take hx2, ← hD, hE, el]
      rfl
  · have hD : D = (as.take as.length).flatMap (lpsV c) := hD
    rw [List.take_length, ← ep] at hD
    subst hD
    exact s_ret (d_var (ra := rAdr) (x := p) 6 (rt_frz hp hk'))
end
end Law


set_option Elab.async false
set_option linter.all false
set_option maxRecDepth 100000
set_option maxHeartbeats 1500000
set_option synthInstance.maxSize 4000
set_option synthInstance.maxHeartbeats 400000
/-! RqJ: menus, the program's and the law's own (k22). -/
namespace Law
open PySem L2 Evl Sk MP
local macro_rules | `(tactic| walk_at "sc") => `(tactic| first | omega | assumption | trivial | (with_reducible exact mulOk) | (with_reducible exact smOk) | (with_reducible exact ⟨by decide, smOk⟩) | (with_reducible exact ⟨by omega, smOk⟩) | decide | rfl | (simp only [List.length_cons, List.length_nil]; decide) | exact divOk (by omega))
theorem lps_no {c : ChV} {r : Rt} (h : ∀ j, j < r.length - 1 → hasHold (hoOf c) r j = false) : lpsV c r = [r] := by
  unfold lpsV
  rw [List.flatMap_cons, List.flatMap_cons, loop_0, loop_no (by decide) h]
  rfl
theorem lps_hold {c : ChV} {r : Rt} {i : Nat} {m : Str} (h : ∀ j, j < i → hasHold (hoOf c) r j = false) (hi : i < r.length - 1) (hp : valX (hoOf c) (Sum.inr (at_ r i)) = some m) (h8 : r.length ≤ 8) : lpsV c r = [r, r.take (i + 1) ++ [m, at_ r i] ++ r.drop (i + 1)] := by
  unfold lpsV
  rw [List.flatMap_cons, List.flatMap_cons, loop_0, loop_ok (by decide) h hi hp (by omega)]
  rfl
theorem dif_law (a b : Int) : [a] ++ ([b].filter fun x => !decide (x = a)).map (fun x => x) = difV a b := by
  unfold difV
  rw [List.map_id', List.filter_cons]
  by_cases e : a = b
  · rw [if_pos e, decide_eq_true e.symm]
    rfl
  · rw [if_neg e, decide_eq_false (fun z => e z.symm)]
    rfl
theorem cut_map {α β : Type} (f : α → β) (xs : List α) (l h : Option Int) : cutL (xs.map f) l h = (cutL xs l h).map f := by
  unfold cutL
  rw [List.length_map, List.map_take, List.map_drop]
theorem mn_law (q : Rq) (rs : List Rt) : [q.2.2.2.2.2.2.1, q.2.2.2.2.2.2.1 + 8].flatMap (mn0 q rs) = mnV q rs := by
  unfold mnV
  rw [List.flatMap_cons, List.flatMap_cons, List.flatMap_cons, List.flatMap_cons, Int.add_zero]
  rfl
theorem hold_none {c : ChV} {r : Rt} (h : (rgI 0 1 (r.length - 1)).filter (fun k => hasHold (hoOf c) r k.toNat) = []) : ∀ j, j < r.length - 1 → hasHold (hoOf c) r j = false := fun j hj => by
  have h1 := List.filter_eq_nil_iff.mp h
  have hl : j < (rgI 0 1 (r.length - 1)).length := by rw [rgI_len]; exact hj
  have g := List.getElem?_eq_getElem hl
  obtain ⟨_, ex⟩ := rgI_item g
  have := h1 _ (List.mem_of_getElem? g)
  rw [ex, Bool.not_eq_true] at this
  rw [← this]
  congr 1
  omega
theorem hold_first {c : ChV} {r : Rt} {x : Int} {t : List Int} (h : (rgI 0 1 (r.length - 1)).filter (fun k => hasHold (hoOf c) r k.toNat) = x :: t) : ∃ i : Nat, x = (i : Int) ∧ i < r.length - 1 ∧ hasHold (hoOf c) r i = true ∧ ∀ j, j < i → hasHold (hoOf c) r j = false := by
  have h1 : ((rgI 0 1 (r.length - 1)).filter (fun k => hasHold (hoOf c) r k.toNat)).head? = some x := by rw [h]; rfl
  rw [List.head?_filter, List.find?_eq_some_iff_getElem] at h1
  obtain ⟨h2, i, hi, e, h3⟩ := h1
  have g := List.getElem?_eq_getElem hi
  obtain ⟨h4, ex⟩ := rgI_item g
  have e2 : x = (i : Int) := by rw [← e, ex]; omega
  subst e2
  refine ⟨i, rfl, h4, by rw [Int.toNat_natCast] at h2; exact h2, fun j hj => ?_⟩
  have hl : j < (rgI 0 1 (r.length - 1)).length := by omega
  obtain ⟨_, ey⟩ := rgI_item (List.getElem?_eq_getElem hl)
  have h5 := h3 j hj
  rw [ey, Bool.not_eq_true'] at h5
  rw [← h5]
  congr 1
  omega
section
variable {P : Program} {w : World} {K : PySem.W.Frag} {mg : Str → Option Value} {base : Heap}
abbrev sp_menu (T : List Addr) (K : Fg) : Sp := spN K T (fCons rChart (fOne rRq)) (fun x => RqR x.1 x.2) (oLst rOp) fun x d => d = mnV x.2 (prsV x.1 x.2)
abbrev N_menu : List Str := ["chart", "request", "_", "kind", "level", "wanted", "tick", "options", "routes", "delay", "route", "target", "speed"]
theorem sc_menu : FnScope N_menu ["chart", "request"] (defScope s_menu) := ⟨rfl, rfl, rfl, by decide +kernel, rfl, by decide +kernel, by decide +kernel⟩
theorem ok_menu (N : Nm K mg) (T : Bt mg) (Y : Tb0 N base) (hP : P.main = pM) : FnOk P w K mg base CX0 7 N.menu.f N.menu.fd ["chart", "request"] (sp_menu (tsOf N) K) := by
  refine fn_m N.menu.F sc_menu (tsOf N) fun cdv A outer s G H E x Q fam hp hk => ?_
  obtain ⟨c, q⟩ := x
  have hp : RqR c q := hp
  have hpl := prs_len c q
  have z1 : 100000 ≤ sizeLine := by decide
  obtain ⟨u, hu, hru, hcu⟩ := N.kDELAYS
  have hk' : ∀ {Γ : Gm} {a : Addr} {d : List Op}, d = mnV q (prsV c q) → RT K ⟨tsOf N, _, G, H, []⟩ Γ [⟨a, oLst rOp, d⟩] rAdr a _ := fun {Γ a d} e => hk ⟨d, e, rfl⟩
  clear hk
  have q1 : spV q = difV q.2.1.2.2.1 q.2.1.2.1 := rfl
  have q2 : tgV q = difV q.2.2.2.2.2.1 q.2.2.2.2.1 := rfl
  show DS _ K ⟨tsOf N, _, G, H, []⟩ [some ⟨rChart, c⟩, some ⟨rRq, q⟩, none, none, none, none, none, none, none, none, none, none, none] [] (defBody s_menu) _
  refine s_asg (js := [2, 3, 2, 2, 4, 5, 6, 2]) (ra := rRq) (d_var (ra := rRq) (x := q) 1 (g_tup (gs_cons (g_name 2 (gs_cons (g_name 3 (gs_cons (g_name 2 (gs_cons (g_name 2 (gs_cons (g_name 4 (gs_cons (g_name 5 (gs_cons (g_name 6 (gs_one (g_name 2 ?_))))))))))))))))))
  refine s_set 7 (d_lstO (ra := rOp) (da_all0 ⟨(by walk_at "sc"), fun p hpM => ?_⟩))
  refine s_set 8 (d_call N.possible_routes (ok_possible_routes N T Y hP) (da_cons (d_var (ra := rChart) (x := c) 0 (da_one (d_var (ra := rRq) (x := q) 1 (sw_f hp ?_))))))
  have hmv : mnV q (prsV c q) = [(0 : Int), 8].flatMap fun d => mn0 q (prsV c q) (q.2.2.2.2.2.2.1 + d) := rfl
  rw [hmv] at hk'
  clear hmv
  generalize prsV c q = rs at hpl hk' ⊢
  refine s_for (js := [9]) (w_tpv (ra := rInt) (d_glob hu hru (cdi_rep (xs := [0, 8]) hcu) ?_))
  refine ⟨List Op, fun i D => D = ([(0 : Int), 8].take i).flatMap fun d => mn0 q rs (q.2.2.2.2.2.2.1 + d), fun _ => [some ⟨rChart, c⟩, none, none, some ⟨rK5, q.2.1⟩, some ⟨rInt, q.2.2.2.2.1⟩, some ⟨rInt, q.2.2.2.2.2.1⟩, some ⟨rInt, q.2.2.2.2.2.2.1⟩, some ⟨rAdr, p⟩, some ⟨rLst rRt, rs⟩, none, none, none, none], fun D => [⟨p, oLst rOp, D⟩], ⟨[], rfl, ⟨rfl, rfl, rfl, rfl, rfl, rfl, rfl, trivial⟩, rfl⟩, fun g1 i dl D hx1 hD => (g_name 9 ?_), fun D hD => ?_⟩
  · have hD : D = ([(0 : Int), 8].take i).flatMap fun d => mn0 q rs (q.2.2.2.2.2.2.1 + d) := hD
    have hDl : D.length ≤ 32 := by
      have h1 := flm_len (xs := [(0 : Int), 8].take i) fun d _ => mn0_len q rs (q.2.2.2.2.2.2.1 + d)
      have h2 : ([(0 : Int), 8].take i).length ≤ 2 := by rw [List.length_take]; exact Nat.min_le_right _ _
      have h3 := Nat.mul_le_mul h2 (Nat.mul_le_mul_right 4 hpl)
      rw [hD]
      omega
    refine s_for (js := [10]) (w_lst (d_var (ra := rLst rRt) (x := rs) 8 ?_))
    refine ⟨List Op, fun j F => F = D ++ (rs.take j).flatMap (mn1 q (q.2.2.2.2.2.2.1 + dl)), fun _ => [some ⟨rChart, c⟩, none, none, some ⟨rK5, q.2.1⟩, some ⟨rInt, q.2.2.2.2.1⟩, some ⟨rInt, q.2.2.2.2.2.1⟩, some ⟨rInt, q.2.2.2.2.2.2.1⟩, some ⟨rAdr, p⟩, some ⟨rLst rRt, rs⟩, some ⟨rInt, dl⟩, none, none, none], fun D => [⟨p, oLst rOp, D⟩], ⟨D, by simp, ⟨rfl, rfl, rfl, rfl, rfl, rfl, rfl, rfl, trivial⟩, rfl⟩, fun g2 j r F hx2 hF => (g_name 10 ?_), fun F hF => ?_⟩
    · have hF : F = D ++ (rs.take j).flatMap (mn1 q (q.2.2.2.2.2.2.1 + dl)) := hF
      have hFl : F.length ≤ 48 := by
        have h1 := flm_len (xs := rs.take j) fun r _ => mn1_len q (q.2.2.2.2.2.2.1 + dl) r
        rw [List.length_take] at h1
        rw [hF, List.length_append]
        omega
      refine s_for (js := [11]) (w_lst (d_call N.different (ok_different N T) (da_cons (d_var (ra := rInt) (x := q.2.2.2.2.2.1) 5 (da_one (d_var (ra := rInt) (x := q.2.2.2.2.1) 4 (sw_f trivial ?_)))))))
      have hm1 : mn1 q (q.2.2.2.2.2.2.1 + dl) r = (tgV q).flatMap (mn2 q (q.2.2.2.2.2.2.1 + dl) r) := rfl
      rw [q2] at hm1
      dsimp only
      have htl := dif_len q.2.2.2.2.2.1 q.2.2.2.2.1
      generalize difV q.2.2.2.2.2.1 q.2.2.2.2.1 = ts at htl hm1 ⊢
      refine ⟨List Op, fun k I => I = F ++ (ts.take k).flatMap (mn2 q (q.2.2.2.2.2.2.1 + dl) r), fun _ => [some ⟨rChart, c⟩, none, none, some ⟨rK5, q.2.1⟩, some ⟨rInt, q.2.2.2.2.1⟩, some ⟨rInt, q.2.2.2.2.2.1⟩, some ⟨rInt, q.2.2.2.2.2.2.1⟩, some ⟨rAdr, p⟩, some ⟨rLst rRt, rs⟩, some ⟨rInt, dl⟩, some ⟨rRt, r⟩, none, none], fun D => [⟨p, oLst rOp, D⟩], ⟨F, by simp, ⟨rfl, rfl, rfl, rfl, rfl, rfl, rfl, rfl, rfl, trivial⟩, rfl⟩, fun g3 k t I hx3 hI => (g_name 11 ?_), fun I hI => ?_⟩
      · have hI : I = F ++ (ts.take k).flatMap (mn2 q (q.2.2.2.2.2.2.1 + dl) r) := hI
        have hIl : I.length ≤ 52 := by
          have h1 := flm_len (xs := ts.take k) fun t _ => mn2_len q (q.2.2.2.2.2.2.1 + dl) r t
          rw [List.length_take] at h1
          rw [hI, List.length_append]
          omega
        refine s_for (js := [12]) (w_lst (d_call N.different (ok_different N T) (da_cons (d_ix (d_var (ra := rK5) (x := q.2.1) 3 (d_int (i_tup 2 (da_one (d_ix (d_var (ra := rK5) (x := q.2.1) 3 (d_int (i_tup 1 (sw_f trivial ?_)))))))))))))
        have hm2 : mn2 q (q.2.2.2.2.2.2.1 + dl) r t = (spV q).map (mn3 (q.2.2.2.2.2.2.1 + dl) r t) := rfl
        rw [q1] at hm2
        dsimp only
        have hsl := dif_len q.2.1.2.2.1 q.2.1.2.1
        generalize difV q.2.1.2.2.1 q.2.1.2.1 = ss at hsl hm2 ⊢
        refine ⟨List Op, fun l J => J = I ++ (ss.take l).map (mn3 (q.2.2.2.2.2.2.1 + dl) r t), fun _ => [some ⟨rChart, c⟩, none, none, some ⟨rK5, q.2.1⟩, some ⟨rInt, q.2.2.2.2.1⟩, some ⟨rInt, q.2.2.2.2.2.1⟩, some ⟨rInt, q.2.2.2.2.2.2.1⟩, some ⟨rAdr, p⟩, some ⟨rLst rRt, rs⟩, some ⟨rInt, dl⟩, some ⟨rRt, r⟩, some ⟨rInt, t⟩, none], fun D => [⟨p, oLst rOp, D⟩], ⟨I, by simp, ⟨rfl, rfl, rfl, rfl, rfl, rfl, rfl, rfl, rfl, rfl, trivial⟩, rfl⟩, fun g4 l sp J hx4 hJ => (g_name 12 ?_), fun J hJ => ?_⟩
        · have hJ : J = I ++ (ss.take l).map (mn3 (q.2.2.2.2.2.2.1 + dl) r t) := hJ
          have hJl : J.length ≤ 54 := by
            rw [hJ, List.length_append, List.length_map, List.length_take]
            omega
          refine s_expr (d_app (ra := rOp) (d_var (ra := rAdr) (x := p) 7 ⟨_, _, inferInstance, d_tup (da_cons (d_tup (da_cons (d_var (ra := rRt) (x := r) 10 (da_cons (d_var (ra := rInt) (x := sp) 12 (da_one (d_var (ra := rInt) (x := t) 11 (da_one (d_bin (d_var (ra := rInt) (x := q.2.2.2.2.2.2.1) 6 (d_var (ra := rInt) (x := dl) 9 (o_add ⟨_, _, inferInstance, ?_, ?_⟩)))))))))))))⟩))
          · show J.length < sizeLine
            omega
          · refine s_next (J ++ [mn3 (q.2.2.2.2.2.2.1 + dl) r t sp]) ?_ ⟨rfl, rfl, rfl, rfl, rfl, rfl, rfl, rfl, rfl, rfl, trivial⟩ rfl
            show J ++ [mn3 (q.2.2.2.2.2.2.1 + dl) r t sp] = _
            rw [take_snoc hx4, List.map_append, hJ, List.append_assoc]
            rfl
        · have hJ : J = I ++ (ss.take ss.length).map (mn3 (q.2.2.2.2.2.2.1 + dl) r t) := hJ
          rw [List.take_length, ← hm2] at hJ
          refine s_next J ?_ ⟨rfl, rfl, rfl, rfl, rfl, rfl, rfl, rfl, rfl, trivial⟩ rfl
          show J = _
          rw [flatMap_take hx3, ← List.append_assoc, ← hI, hJ]
      · have hI : I = F ++ (ts.take ts.length).flatMap (mn2 q (q.2.2.2.2.2.2.1 + dl) r) := hI
        rw [List.take_length, ← hm1] at hI
        refine s_next I ?_ ⟨rfl, rfl, rfl, rfl, rfl, rfl, rfl, rfl, trivial⟩ rfl
        show I = _
        rw [flatMap_take hx2, ← List.append_assoc, ← hF, hI]
    · have hF : F = D ++ (rs.take rs.length).flatMap (mn1 q (q.2.2.2.2.2.2.1 + dl)) := hF
      rw [List.take_length] at hF
      refine s_next F ?_ ⟨rfl, rfl, rfl, rfl, rfl, rfl, rfl, trivial⟩ rfl
      show F = _
      rw [flatMap_take hx1, ← hD, hF]
      rfl
  · have hD : D = ([(0 : Int), 8].take 2).flatMap fun d => mn0 q rs (q.2.2.2.2.2.2.1 + d) := hD
    exact s_ret (d_var (ra := rAdr) (x := p) 7 (hk' hD))
abbrev sp_law_menu (K : Fg) : Sp := spF K [] (fCons rChart (fOne rRq)) (fun x => RqR x.1 x.2) (rLst rOp) fun x => mnV x.2 (prsV x.1 x.2)
abbrev N_law_menu : List Str := ["_law_chart_here", "_law_request_here", "_law_routes_here", "_law_route", "_law_holds", "_law_k", "_law_at", "_law_levels", "_law_level", "_law_speeds", "_law_speed", "_law_options", "_law_entry"]
theorem sc_law_menu : FnScope N_law_menu ["_law_chart_here", "_law_request_here"] (defScope s_law_menu) := ⟨rfl, rfl, rfl, by decide +kernel, rfl, by decide +kernel, by decide +kernel⟩
theorem ok_law_menu (N : Nm K mg) (T : Bt mg) : FnOk P w K mg base CX0 4 N.law_menu.f N.law_menu.fd ["_law_chart_here", "_law_request_here"] (sp_law_menu K) := by
  refine fn_m N.law_menu.F sc_law_menu [] fun cdv A outer s G H E x Q fam hp hk => ?_
  obtain ⟨c, q⟩ := x
  have hp : RqR c q := hp
  have hpl := prs_len c q
  have hps := hp.s
  have hpn := hp.n
  have hpc := hp.w
  have hao := fun r (hr : r ∈ altV c q) => alt_ok hp hr
  have hal := alt_len c q
  have ep : prsV c q = (altV c q).flatMap (lpsV c) := rfl
  have z1 : 100000 ≤ sizeLine := by decide
  have hk' : ∀ {Γ : Gm}, RT K ⟨[], _, G, H, []⟩ Γ [] (rLst rOp) (mnV q (prsV c q)) _ := fun {Γ} => hk ⟨rfl, rfl⟩
  clear hk
  have ec : cutL ((allV c q.2.2.2.2.1 q.2.2.1 q.2.2.2.1).map fun r => r.2.2) none (some 2) = altV c q := cut_map _ _ _ _
  show DS _ K ⟨[], _, G, H, []⟩ [some ⟨rChart, c⟩, some ⟨rRq, q⟩, none, none, none, none, none, none, none, none, none, none, none] [] (defBody s_law_menu) _
  refine s_set 2 (d_lstO (ra := rRt) (da_all0 ⟨(by walk_at "sc"), fun p hpM => ?_⟩))
  refine s_for (js := [3]) (w_lst (d_slice (d_call N.routes (ok_routes N T) (da_cons (d_var (ra := rChart) (x := c) 0 (da_cons (d_ix (d_var (ra := rRq) (x := q) 1 (d_int (i_tup 2 (da_cons (d_ix (d_var (ra := rRq) (x := q) 1 (d_int (i_tup 3 (da_one (d_ix (d_var (ra := rRq) (x := q) 1 (d_int (i_tup 4 (sw_f ⟨hpc, hps, hpn⟩ (do_no (do_at (d_int (sl_l ?_)))))))))))))))))))))))))
  dsimp only
  rw [ec]
  generalize prsV c q = rs at hpl hk' ep
  generalize altV c q = as at hao hal ep ec ⊢
  refine ⟨List Rt, fun i D => D = (as.take i).flatMap (lpsV c), fun _ => [some ⟨rChart, c⟩, some ⟨rRq, q⟩, some ⟨rAdr, p⟩, none, none, none, none, none, none, none, none, none, none], fun D => [⟨p, oLst rRt, D⟩], ⟨[], rfl, ⟨rfl, rfl, rfl, trivial⟩, rfl⟩, fun g1 i r D hx1 hD => (g_name 3 ?_), fun D hD => ?_⟩
  · have hD : D = (as.take i).flatMap (lpsV c) := hD
    obtain ⟨hr2, hr8⟩ := hao r (List.mem_of_getElem? hx1)
    have hDl : D.length ≤ 4 := by
      have h1 := flm_len (xs := as.take i) fun r _ => lps_len c r
      rw [List.length_take] at h1
      rw [hD]
      omega
    refine s_expr (d_app (ra := rRt) (d_var (ra := rAdr) (x := p) 2 ⟨_, _, inferInstance, d_var (ra := rRt) (x := r) 3 ⟨_, _, inferInstance, ?_, ?_⟩⟩))
    · show D.length < sizeLine
      omega
    refine s_lcF 4 (js := [5]) (ra := rInt) (rb := rInt) (f := fun k : Int => k) (g := fun k : Int => hasHold (hoOf c) r k.toNat) [("_law_k", 5)] [5] (fun _ => blkOk_by (N := N_law_menu) (sc := defScope s_law_menu) (by decide +kernel)) (w_rng1 T.range (d_bin (d_callB T.len bt_len (da_one (d_var (ra := rRt) (x := r) 3 (c_lenT (d_int (o_sub ⟨by omega, ⟨rfl, (by rw [rgI_len]; omega), fun gg E ys k hk2 => (g_name 5 ?_), ?_⟩⟩))))))))
    · obtain ⟨j, hj⟩ := List.getElem?_of_mem hk2
      obtain ⟨hlt, ex⟩ := rgI_item hj
      have ex : k = (j : Int) := by omega
      subst ex
      have g2 : atI r (j : Int) = some (at_ r j) := atI_nat' (at_get (by omega))
      exact dts_one (dt_then (x := hasHold (hoOf c) r j) (dt_inK (d_keyS (d_ix (d_var (ra := rRt) (x := r) 3 (d_var (ra := rInt) (x := (j : Int)) 5 (i_tpv g2 (d_recP 0 4 rfl chN_nd ⟨_, rStr, hoOf c, inferInstance, rfl, rfl⟩))))))) ⟨rfl, rfl, fun hb => d_var (ra := rInt) (x := (j : Int)) 5 ⟨rfl, rfl⟩⟩)
    rw [show ((r.length : Int) - 1).toNat = r.length - 1 by omega, List.map_id']
    generalize hH : (rgI 0 1 (r.length - 1)).filter (fun k => hasHold (hoOf c) r k.toNat) = hs
    have hsl : hs.length ≤ 8 := by
      have := List.length_filter_le (fun k : Int => hasHold (hoOf c) r k.toNat) (rgI 0 1 (r.length - 1))
      rw [hH, rgI_len] at this
      omega
    refine s_ifP (x := decide ((hs.length : Int) > 0)) (dt_cmp (d_callB T.len bt_len (da_one (d_var (ra := rLst rInt) (x := hs) 4 (c_lenL (d_int (o_gt ⟨rfl, rfl⟩))))))) (fun hb => ?_) (fun hb => ?_)
    · rcases hs with _ | ⟨x, tl⟩
      · exact absurd (of_decide_eq_true hb) (by show ¬ ((0 : Nat) : Int) > 0; omega)
      obtain ⟨k, ex, hk1, hk3, hk4⟩ := hold_first hH
      subst ex
      obtain ⟨m, hm⟩ := Option.isSome_iff_exists.mp hk3
      have el := lps_hold hk4 hk1 hm hr8
      have g2 : atI r (k : Int) = some (at_ r k) := atI_nat' (at_get (by omega))
      have c1 : cutL r none (some ((k : Int) + 1)) = r.take (k + 1) := cut_to r (k + 1) (by omega)
      have c2 : cutL r (some ((k : Int) + 1)) none = r.drop (k + 1) := cut_from r (k + 1) (by omega)
      have hA : cutL r none (some ((k : Int) + 1)) ≠ [] := fun z => by
        rw [c1] at z
        have := congrArg List.length z
        rw [List.length_take] at this
        have this : min (k + 1) r.length = 0 := this
        omega
      have hC : cutL r (some ((k : Int) + 1)) none ≠ [] := fun z => by
        rw [c2] at z
        have := congrArg List.length z
        rw [List.length_drop] at this
        have this : r.length - (k + 1) = 0 := this
        omega
      refine s_set 6 (d_ix (d_var (ra := rLst rInt) (x := (k : Int) :: tl) 4 (d_int (i_lst (x := (k : Int)) (atI_nat' (k := 0) rfl) ?_))))
      refine s_expr (d_app (ra := rRt) (d_var (ra := rAdr) (x := p) 2 ⟨_, _, inferInstance, d_bin (d_bin (d_slice (d_var (ra := rRt) (x := r) 3 (do_no (do_at (d_bin (d_var (ra := rInt) (x := (k : Int)) 6 (d_int (o_add (sl_t (nw_to (k := k + 1) (by omega)) (d_tpv (ra := rStr) (da_all (d_dk (rc := rStr) (d_recP 0 4 rfl chN_nd (d_keyS (d_ix (d_var (ra := rRt) (x := r) 3 (d_var (ra := rInt) (x := (k : Int)) 6 (i_tpv g2 ⟨_, m, inferInstance, hm, (da_all (d_ix (d_var (ra := rRt) (x := r) 3 (d_var (ra := rInt) (x := (k : Int)) 6 (i_tpv g2 (da_all0 ⟨(by walk_at "sc"), o_catT hA (List.cons_ne_nil _ _) ?_ (d_slice (d_var (ra := rRt) (x := r) 3 (do_at (d_bin (d_var (ra := rInt) (x := (k : Int)) 6 (d_int (o_add (do_no (sl_t (nw_from (k := k + 1) (by omega) (by omega)) (o_catT (fun z => hA (List.append_eq_nil_iff.mp z).1) hC ?_ ⟨_, _, inferInstance, ?_, ?_⟩))))))))))⟩))))))⟩)))))))))))))))))))⟩))
      · rw [c1, List.length_take]
        show _ + 2 ≤ _
        omega
      · rw [c1, c2, List.length_append, List.length_take, List.length_drop]
        show _ + 2 + _ ≤ _
        omega
      · show (D ++ [r]).length < sizeLine
        rw [List.length_append]
        show D.length + 1 < sizeLine
        omega
      · rw [c1, c2]
        refine s_out (s_next _ ?_ ⟨rfl, rfl, rfl, trivial⟩ rfl)
        show _ = (as.take (i + 1)).flatMap (lpsV c)
        rw [flatMap_take hx1, ← hD, el, List.append_assoc]
        rfl
    · have hb := of_decide_eq_false hb
      have e0 : hs = [] := List.eq_nil_of_length_eq_zero (by omega)
      subst e0
      have el := lps_no (hold_none hH)
      refine s_out (s_next _ ?_ ⟨rfl, rfl, rfl, trivial⟩ rfl)
      show _ = (as.take (i + 1)).flatMap (lpsV c)
      rw [flatMap_take hx1, ← hD, el]
  · have hD : D = (as.take as.length).flatMap (lpsV c) := hD
    rw [List.take_length, ← ep] at hD
    clear ep ec hao hal
    have hD := hD.symm
    subst hD
    refine s_frz 2 hpM ?_
    have dl1 := dif_law q.2.2.2.2.2.1 q.2.2.2.2.1
    have dl2 := dif_law q.2.1.2.2.1 q.2.1.2.1
    refine s_set 7 (d_bin (d_lst (ra := rInt) (da_all (d_ix (d_var (ra := rRq) (x := q) 1 (d_int (i_tup 5 (da_all0 ⟨(by walk_at "sc"), d_lcF (js := [8]) (ra := rInt) (rb := rInt) (f := fun x : Int => x) (g := fun x : Int => !decide (x = q.2.2.2.2.2.1)) [("_law_level", 8)] [8] (fun _ => blkOk_by (N := N_law_menu) (sc := defScope s_law_menu) (by decide +kernel)) (w_lst (d_lst (ra := rInt) (da_all (d_ix (d_var (ra := rRq) (x := q) 1 (d_int (i_tup 4 (da_all0 ⟨(by walk_at "sc"), ⟨rfl, (by show 1 ≤ sizeLine; omega), fun gg D ys x hx => (g_name 8 (dts_one (dt_then (x := !decide (x = q.2.2.2.2.2.1)) (dt_cmp (d_var (ra := rInt) (x := x) 8 (d_ix (d_var (ra := rRq) (x := q) 1 (d_int (i_tup 5 (o_neI ⟨rfl, rfl⟩))))))) ⟨rfl, rfl, fun hb => d_var (ra := rInt) (x := x) 8 ⟨rfl, rfl⟩⟩))), o_cat ?_ ?_⟩⟩))))))))⟩))))))))
    · have := List.length_filter_le (fun x : Int => !decide (x = q.2.2.2.2.2.1)) [q.2.2.2.2.1]
      rw [List.length_map]
      show 1 + _ ≤ sizeLine
      have h1 : [q.2.2.2.2.1].length = 1 := rfl
      omega
    rw [dl1]
    refine s_set 9 (d_bin (d_lst (ra := rInt) (da_all (d_ix (d_ix (d_var (ra := rRq) (x := q) 1 (d_int (i_tup 1 (d_int (i_tup 2 (da_all0 ⟨(by walk_at "sc"), d_lcF (js := [10]) (ra := rInt) (rb := rInt) (f := fun x : Int => x) (g := fun x : Int => !decide (x = q.2.1.2.2.1)) [("_law_speed", 10)] [10] (fun _ => blkOk_by (N := N_law_menu) (sc := defScope s_law_menu) (by decide +kernel)) (w_lst (d_lst (ra := rInt) (da_all (d_ix (d_ix (d_var (ra := rRq) (x := q) 1 (d_int (i_tup 1 (d_int (i_tup 1 (da_all0 ⟨(by walk_at "sc"), ⟨rfl, (by show 1 ≤ sizeLine; omega), fun gg D ys x hx => (g_name 10 (dts_one (dt_then (x := !decide (x = q.2.1.2.2.1)) (dt_cmp (d_var (ra := rInt) (x := x) 10 (d_ix (d_ix (d_var (ra := rRq) (x := q) 1 (d_int (i_tup 1 (d_int (i_tup 2 (o_neI ⟨rfl, rfl⟩)))))))))) ⟨rfl, rfl, fun hb => d_var (ra := rInt) (x := x) 10 ⟨rfl, rfl⟩⟩))), o_cat ?_ ?_⟩⟩)))))))))))⟩)))))))))))
    · have := List.length_filter_le (fun x : Int => !decide (x = q.2.1.2.2.1)) [q.2.1.2.1]
      rw [List.length_map]
      show 1 + _ ≤ sizeLine
      have h1 : [q.2.1.2.1].length = 1 := rfl
      omega
    rw [dl2]
    have htl := dif_len q.2.2.2.2.2.1 q.2.2.2.2.1
    have hsl := dif_len q.2.1.2.2.1 q.2.1.2.1
    have hm1 : ∀ e r, mn1 q e r = (difV q.2.2.2.2.2.1 q.2.2.2.2.1).flatMap (mn2 q e r) := fun e r => rfl
    have hm2 : ∀ e r t, mn2 q e r t = (difV q.2.1.2.2.1 q.2.1.2.1).map (mn3 e r t) := fun e r t => rfl
    generalize difV q.2.2.2.2.2.1 q.2.2.2.2.1 = ts at htl hm1 ⊢
    generalize difV q.2.1.2.2.1 q.2.1.2.1 = ss at hsl hm2 ⊢
    refine s_set 11 (d_lstO (ra := rOp) (da_all0 ⟨(by walk_at "sc"), fun o hoM => ?_⟩))
    refine s_for (js := [12]) (w_lst (d_lst (ra := rInt) (da_all (d_ix (d_var (ra := rRq) (x := q) 1 (d_int (i_tup 6 (da_all (d_bin (d_ix (d_var (ra := rRq) (x := q) 1 (d_int (i_tup 6 (d_int (o_add (da_all0 ⟨(by walk_at "sc"), ?_⟩))))))))))))))))
    have hml := mn_law q rs
    generalize he2 : [q.2.2.2.2.2.2.1, q.2.2.2.2.2.2.1 + 8] = es at hml
    have hesl : es.length = 2 := by rw [← he2]; rfl
    show ∃ (δ : Type), _
    refine ⟨List Op, fun i D => D = (es.take i).flatMap (mn0 q rs), fun _ => [some ⟨rChart, c⟩, some ⟨rRq, q⟩, some ⟨rLst rRt, rs⟩, none, none, none, none, some ⟨rLst rInt, ts⟩, none, some ⟨rLst rInt, ss⟩, none, some ⟨rAdr, o⟩, none], fun D => [⟨o, oLst rOp, D⟩], ⟨[], rfl, ⟨rfl, rfl, rfl, rfl, rfl, rfl, trivial⟩, rfl⟩, fun g1 i e D hx1 hD => (g_name 12 ?_), fun D hD => ?_⟩
    · have hD : D = (es.take i).flatMap (mn0 q rs) := hD
      have hDl : D.length ≤ 32 := by
        have h1 := flm_len (xs := es.take i) fun e _ => mn0_len q rs e
        have h2 : (es.take i).length ≤ 2 := by rw [List.length_take]; omega
        have h3 := Nat.mul_le_mul h2 (Nat.mul_le_mul_right 4 hpl)
        rw [hD]
        omega
      refine s_for (js := [3]) (w_lst (d_var (ra := rLst rRt) (x := rs) 2 ?_))
      refine ⟨List Op, fun j F => F = D ++ (rs.take j).flatMap (mn1 q e), fun _ => [some ⟨rChart, c⟩, some ⟨rRq, q⟩, some ⟨rLst rRt, rs⟩, none, none, none, none, some ⟨rLst rInt, ts⟩, none, some ⟨rLst rInt, ss⟩, none, some ⟨rAdr, o⟩, some ⟨rInt, e⟩], fun D => [⟨o, oLst rOp, D⟩], ⟨D, by simp, ⟨rfl, rfl, rfl, rfl, rfl, rfl, rfl, trivial⟩, rfl⟩, fun g2 j r F hx2 hF => (g_name 3 ?_), fun F hF => ?_⟩
      · have hF : F = D ++ (rs.take j).flatMap (mn1 q e) := hF
        have hFl : F.length ≤ 48 := by
          have h1 := flm_len (xs := rs.take j) fun r _ => mn1_len q e r
          rw [List.length_take] at h1
          rw [hF, List.length_append]
          omega
        refine s_for (js := [8]) (w_lst (d_var (ra := rLst rInt) (x := ts) 7 ?_))
        refine ⟨List Op, fun k I => I = F ++ (ts.take k).flatMap (mn2 q e r), fun _ => [some ⟨rChart, c⟩, some ⟨rRq, q⟩, some ⟨rLst rRt, rs⟩, some ⟨rRt, r⟩, none, none, none, some ⟨rLst rInt, ts⟩, none, some ⟨rLst rInt, ss⟩, none, some ⟨rAdr, o⟩, some ⟨rInt, e⟩], fun D => [⟨o, oLst rOp, D⟩], ⟨F, by simp, ⟨rfl, rfl, rfl, rfl, rfl, rfl, rfl, rfl, trivial⟩, rfl⟩, fun g3 k t I hx3 hI => (g_name 8 ?_), fun I hI => ?_⟩
        · have hI : I = F ++ (ts.take k).flatMap (mn2 q e r) := hI
          have hIl : I.length ≤ 52 := by
            have h1 := flm_len (xs := ts.take k) fun t _ => mn2_len q e r t
            rw [List.length_take] at h1
            rw [hI, List.length_append]
            omega
          refine s_for (js := [10]) (w_lst (d_var (ra := rLst rInt) (x := ss) 9 ?_))
          refine ⟨List Op, fun l J => J = I ++ (ss.take l).map (mn3 e r t), fun _ => [some ⟨rChart, c⟩, some ⟨rRq, q⟩, some ⟨rLst rRt, rs⟩, some ⟨rRt, r⟩, none, none, none, some ⟨rLst rInt, ts⟩, some ⟨rInt, t⟩, some ⟨rLst rInt, ss⟩, none, some ⟨rAdr, o⟩, some ⟨rInt, e⟩], fun D => [⟨o, oLst rOp, D⟩], ⟨I, by simp, ⟨rfl, rfl, rfl, rfl, rfl, rfl, rfl, rfl, rfl, trivial⟩, rfl⟩, fun g4 l sp J hx4 hJ => (g_name 10 ?_), fun J hJ => ?_⟩
          · have hJ : J = I ++ (ss.take l).map (mn3 e r t) := hJ
            have hJl : J.length ≤ 54 := by
              rw [hJ, List.length_append, List.length_map, List.length_take]
              omega
            refine s_expr (d_app (ra := rOp) (d_var (ra := rAdr) (x := o) 11 ⟨_, _, inferInstance, d_tup (da_cons (d_tup (da_cons (d_var (ra := rRt) (x := r) 3 (da_cons (d_var (ra := rInt) (x := sp) 10 (da_one (d_var (ra := rInt) (x := t) 8 (da_one (d_var (ra := rInt) (x := e) 12 ⟨_, _, inferInstance, ?_, ?_⟩))))))))))⟩))
            · show J.length < sizeLine
              omega
            · refine s_next (J ++ [mn3 e r t sp]) ?_ ⟨rfl, rfl, rfl, rfl, rfl, rfl, rfl, rfl, rfl, trivial⟩ rfl
              show J ++ [mn3 e r t sp] = _
              rw [take_snoc hx4, List.map_append, hJ, List.append_assoc]
              rfl
          · have hJ : J = I ++ (ss.take ss.length).map (mn3 e r t) := hJ
            rw [List.take_length, ← hm2] at hJ
            refine s_next J ?_ ⟨rfl, rfl, rfl, rfl, rfl, rfl, rfl, rfl, trivial⟩ rfl
            show J = _
            rw [flatMap_take hx3, ← List.append_assoc, ← hI, hJ]
        · have hI : I = F ++ (ts.take ts.length).flatMap (mn2 q e r) := hI
          rw [List.take_length, ← hm1] at hI
          refine s_next I ?_ ⟨rfl, rfl, rfl, rfl, rfl, rfl, rfl, trivial⟩ rfl
          show I = _
          rw [flatMap_take hx2, ← List.append_assoc, ← hF, hI]
      · have hF : F = D ++ (rs.take rs.length).flatMap (mn1 q e) := hF
        rw [List.take_length] at hF
        refine s_next F ?_ ⟨rfl, rfl, rfl, rfl, rfl, rfl, trivial⟩ rfl
        show F = _
        rw [flatMap_take hx1, ← hD, hF]
        rfl
    · have hD : D = (es.take es.length).flatMap (mn0 q rs) := hD
      rw [List.take_length, hml] at hD
      subst hD
      exact s_ret (d_var (ra := rAdr) (x := o) 11 (rt_frz hoM hk'))
end
end Law


set_option Elab.async false
set_option linter.all false
set_option maxRecDepth 100000
set_option maxHeartbeats 1500000
set_option synthInstance.maxSize 4000
set_option synthInstance.maxHeartbeats 400000
/-! RqK: requests made and spoilt (k22). -/
namespace Law
open PySem L2 Evl Sk MP
local macro_rules | `(tactic| walk_at "sc") => `(tactic| first | omega | assumption | trivial | (with_reducible exact mulOk) | (with_reducible exact smOk) | (with_reducible exact ⟨by decide, smOk⟩) | (with_reducible exact ⟨by omega, smOk⟩) | decide | rfl | (simp only [List.length_cons, List.length_nil]; decide) | exact divOk (by omega))
/-- a request whose texts are fine -/
structure RqG (q : Rq) : Prop where
  n : q.1.length ≤ 100
  s : PyData.strOk q.1 = true
  a : PyData.strOk q.2.2.1 = true
  b : PyData.strOk q.2.2.2.1 = true
theorem RqG.ok {q : Rq} (h : RqG q) : RqOk q := ⟨Nat.le_trans h.n (by decide), h.s⟩
abbrev El := Str ⊕ (K5 ⊕ Int)
abbrev rEl : Rp El := rSum rStr (rSum rK5 rInt)
abbrev elsV (q : Rq) : List El := [.inl q.1, .inr (.inl q.2.1), .inl q.2.2.1, .inl q.2.2.2.1, .inr (.inr q.2.2.2.2.1), .inr (.inr q.2.2.2.2.2.1), .inr (.inr q.2.2.2.2.2.2.1), .inr (.inr q.2.2.2.2.2.2.2)]
theorem els_of {K : Fg} {G : Hp} {v : V} {q : Rq} (h : rRq.rep K G v q) : (rTpv rEl).rep K G v (elsV q) := by
  obtain ⟨a, vs, e, ht, v0, w0, e0, r0, v1, w1, e1, r1, v2, w2, e2, r2, v3, w3, e3, r3, v4, w4, e4, r4, v5, w5, e5, r5, v6, w6, e6, r6, v7, e7, r7⟩ := h
  subst e7 e6 e5 e4 e3 e2 e1 e0
  exact ⟨a, _, e, ht, r0, r1, r2, r3, r4, r5, r6, r7, trivial⟩
theorem all2_cons {α : Type} {p : V → α → Prop} {x : α} {xs : List α} : ∀ {vs : List V}, All2 p vs (x :: xs) → ∃ v ws, vs = v :: ws ∧ p v x ∧ All2 p ws xs
  | [], h => h.elim
  | v :: ws, h => ⟨v, ws, rfl, h⟩
theorem all2_nil {α : Type} {p : V → α → Prop} : ∀ {vs : List V}, All2 p vs ([] : List α) → vs = []
  | [], _ => rfl
  | _ :: _, h => h.elim
theorem els_to {K : Fg} {G : Hp} {v : V} {q : Rq} (h : (rTpv rEl).rep K G v (elsV q)) : rRq.rep K G v q := by
  obtain ⟨a, vs, e, ht, hr⟩ := h
  obtain ⟨v0, w0, e0, r0, hr⟩ := all2_cons hr
  obtain ⟨v1, w1, e1, r1, hr⟩ := all2_cons hr
  obtain ⟨v2, w2, e2, r2, hr⟩ := all2_cons hr
  obtain ⟨v3, w3, e3, r3, hr⟩ := all2_cons hr
  obtain ⟨v4, w4, e4, r4, hr⟩ := all2_cons hr
  obtain ⟨v5, w5, e5, r5, hr⟩ := all2_cons hr
  obtain ⟨v6, w6, e6, r6, hr⟩ := all2_cons hr
  obtain ⟨v7, w7, e7, r7, hr⟩ := all2_cons hr
  have e8 := all2_nil hr
  subst e8
  exact ⟨a, _, e, ht, _, _, e0, r0, _, _, e1, r1, _, _, e2, r2, _, _, e3, r3, _, _, e4, r4, _, _, e5, r5, _, _, e6, r6, _, e7, r7⟩
theorem k5_of {K : Fg} {G : Hp} {v : V} {k : K5} (h : rEl.rep K G v (.inr (.inl k))) : (rTpv rInt).rep K G v [k.1, k.2.1, k.2.2.1, k.2.2.2.1, k.2.2.2.2] := by
  obtain ⟨a, vs, e, ht, v0, w0, e0, r0, v1, w1, e1, r1, v2, w2, e2, r2, v3, w3, e3, r3, v4, e4, r4⟩ := h
  subst e4 e3 e2 e1 e0
  exact ⟨a, _, e, ht, r0, r1, r2, r3, r4, trivial⟩
theorem k5_to {K : Fg} {G : Hp} {v : V} {k : K5} (h : (rTpv rInt).rep K G v [k.1, k.2.1, k.2.2.1, k.2.2.2.1, k.2.2.2.2]) : rEl.rep K G v (.inr (.inl k)) := by
  obtain ⟨a, vs, e, ht, hr⟩ := h
  obtain ⟨v0, w0, e0, r0, hr⟩ := all2_cons hr
  obtain ⟨v1, w1, e1, r1, hr⟩ := all2_cons hr
  obtain ⟨v2, w2, e2, r2, hr⟩ := all2_cons hr
  obtain ⟨v3, w3, e3, r3, hr⟩ := all2_cons hr
  obtain ⟨v4, w4, e4, r4, hr⟩ := all2_cons hr
  have e8 := all2_nil hr
  subst e8
  exact ⟨a, _, e, ht, _, _, e0, r0, _, _, e1, r1, _, _, e2, r2, _, _, e3, r3, _, e4, r4⟩
end Law
namespace Sk
open PySem PySem.Spec PyProof.Rows L2 Evl
section
variable {ι : Type} {F : ι → Cx} {K : Fg} {B : Bs} {Γ : Gm} {O : List Own} {α β γ : Type} {ra : Rp α} {e tg : Expr}
variable {P : Program} {w : World} {mg : Str → Option Value} {base : Heap} {k : Nat}
/-- list(t) of a tuple, one's own -/
theorem c_listTO {xs : List α} {Φ : Addr → List Own → Prop} (kk : ∀ p, p ∉ B.M → Φ p (⟨p, oLst ra, xs⟩ :: O)) (hK : ∀ j, (F j).K = K := by intro _; rfl) : CW F K B Γ O (.type "list") (fOne (rTpv ra)) xs rAdr Φ :=
  fun σ G H vs W ⟨v, e, c, ws, h1, h2, h3⟩ Q q => by
    refine ⟨fun xs H Q => ∃ p ys, xs = [.ref p] ∧ (SqL K H p ys ∨ SqT K H p ys) ∧ ∀ l, H l = none → Q (.ref l) (upd H l (.lst ys)), fun j => by rw [← hK j]; exact call_list_of, c, ws, by rw [e, h1], .inr (ex_t W.sub h2), fun p hp => ?_⟩
    exact q p _ _ G _ (kk p (W.notM hp)) (W.newOwn hp (r := oLst ra) (x := xs) ⟨_, rfl, h3⟩) (Ex.refl _) rfl
end
end Sk
namespace Law
open PySem L2 Evl Sk MP
local macro_rules | `(tactic| walk_at "sc") => `(tactic| first | omega | assumption | trivial | (with_reducible exact mulOk) | (with_reducible exact smOk) | (with_reducible exact ⟨by decide, smOk⟩) | (with_reducible exact ⟨by omega, smOk⟩) | decide | rfl | (simp only [List.length_cons, List.length_nil]; decide) | exact divOk (by omega))
section
variable {P : Program} {w : World} {K : PySem.W.Frag} {mg : Str → Option Value} {base : Heap}
abbrev sp_request (K : Fg) : Sp := sp1 K [] (fCons rAdr (fCons rChart (fOne rStr))) (fun x => (∃ m ns, ChQ x.2.1 m ns) ∧ x.2.2.length ≤ 100 ∧ PyData.strOk x.2.2 = true) (fun x => ⟨x.1, oSt, ()⟩) rRq fun x y => RqG y
abbrev N_request : List Str := ["_law_state", "_law_chart_here", "_law_name", "_law_names_here", "_law_kind_here", "_law_start_here", "_law_goal", "_law_level", "_law_wanted", "_law_other"]
theorem sc_request : FnScope N_request ["_law_state", "_law_chart_here", "_law_name"] (defScope s_request) := ⟨rfl, rfl, rfl, by decide +kernel, rfl, by decide +kernel, by decide +kernel⟩
theorem ok_request (N : Nm K mg) (T : Bt mg) : FnOk P w K mg base CX0 4 N.request.f N.request.fd ["_law_state", "_law_chart_here", "_law_name"] (sp_request K) := by
  refine fn_m N.request.F sc_request [] fun cdv A outer s G H E x Q fam hp hk => ?_
  obtain ⟨st, c, nm⟩ := x
  obtain ⟨⟨m, ns, hc⟩, hn1, hn2⟩ := hp
  dsimp only at hc hn1 hn2
  have hk' : ∀ {Γ : Gm} {d : Rq}, RqG d → RT K ⟨[], _, G, H, []⟩ Γ [⟨st, oSt, ()⟩] rRq d _ := fun {Γ d} e => hk ⟨rfl, e⟩
  clear hk
  have z1 : 100000 ≤ sizeLine := by decide
  have hl2 := hc.l2
  have hl12 := hc.l12
  have hso := hc.so
  show DS _ K ⟨[], _, G, H, []⟩ [some ⟨rAdr, st⟩, some ⟨rChart, c⟩, some ⟨rStr, nm⟩, none, none, none, none, none, none, none] [⟨st, oSt, ()⟩] (defBody s_request) _
  refine s_set 3 (d_callB T.sorted bt_sorted (da_one (d_recP 1 0 rfl chN_nd (c_sortedD (rb := rPt) (ks := ns) hc.ky (by omega) (fun ys hys _ => ?_)))))
  have hyl : ys.length = ns.length := hys.length_eq
  have hyn : ys.Nodup := hys.nodup_iff.mpr hc.nd
  have hyo : ∀ y ∈ ys, PyData.strOk y = true := fun y hy => hso y (hys.mem_iff.mp hy)
  refine s_set 4 (d_call N.kind (ok_kind N T) (da_one (d_var (ra := rAdr) (x := st) 0 (sw_1 (q := st) trivial (fun kd hkd => ?_)))))
  refine s_set 5 (d_call N.pick (ok_pick (ra := rStr) N T) (da_cons (d_var (ra := rAdr) (x := st) 0 (da_one (d_var (ra := rLst rStr) (x := ys) 3 (sw_1 (q := st) ⟨by dsimp only; omega, by dsimp only; omega⟩ (fun sn hsn => ?_)))))))
  have hsn : sn ∈ ys := hsn
  have hfl : 0 < (ys.filter fun o => !decide (o = sn)).length := by
    obtain ⟨o, ho1, ho2⟩ : ∃ o ∈ ys, o ≠ sn := by
      have g0 : ys[0]? = some ys[0] := List.getElem?_eq_getElem (by omega)
      have g1 : ys[1]? = some ys[1] := List.getElem?_eq_getElem (by omega)
      have hne := nd_ne hyn g0 g1 (by decide)
      by_cases e : ys[0] = sn
      · exact ⟨ys[1], List.getElem_mem _, fun z => hne (e.trans z.symm)⟩
      · exact ⟨ys[0], List.getElem_mem _, e⟩
    refine List.length_pos_of_mem (a := o) (List.mem_filter.mpr ⟨ho1, ?_⟩)
    rw [decide_eq_false ho2]
    rfl
  have hfl2 := List.length_filter_le (fun o => !decide (o = sn)) ys
  refine s_set 6 (d_call N.pick (ok_pick (ra := rStr) N T) (da_cons (d_var (ra := rAdr) (x := st) 0 (da_one (d_lcF (js := [9]) (ra := rStr) (rb := rStr) (f := fun o : Str => o) (g := fun o : Str => !decide (o = sn)) [("_law_other", 9)] [9] (fun _ => blkOk_by (N := N_request) (sc := defScope s_request) (by decide +kernel)) (w_lst (d_var (ra := rLst rStr) (x := ys) 3 ⟨rfl, by omega, fun gg D zs o ho => (g_name 9 (dts_one (dt_then (x := !decide (o = sn)) (dt_cmp (d_var (ra := rStr) (x := o) 9 (d_var (ra := rStr) (x := sn) 5 (o_neS ⟨rfl, rfl⟩)))) ⟨rfl, rfl, fun hb => d_var (ra := rStr) (x := o) 9 ⟨rfl, rfl⟩⟩))), sw_1 (q := st) ⟨by dsimp only; rw [List.length_map]; exact hfl, by dsimp only; rw [List.length_map]; omega⟩ (fun gn hgn => ?_)⟩)))))))
  have hgn : gn ∈ (ys.filter fun o => !decide (o = sn)).map fun o => o := hgn
  rw [List.map_id'] at hgn
  have hgn2 : gn ∈ ys := (List.mem_filter.mp hgn).1
  refine s_set 7 (d_call N.pick (ok_pick (ra := rInt) N T) (da_cons (d_var (ra := rAdr) (x := st) 0 (da_one (d_lst (ra := rInt) (da_all (d_int (da_all (d_int (da_all (d_int (da_all (d_int (da_all (d_int (da_all0 ⟨(by walk_at "sc"), sw_1 (q := st) ⟨by walk_at "sc", by walk_at "sc"⟩ (fun lv hlv => ?_)⟩))))))))))))))))
  refine s_set 8 (d_call N.pick (ok_pick (ra := rInt) N T) (da_cons (d_var (ra := rAdr) (x := st) 0 (da_one (d_lst (ra := rInt) (da_all (d_var (ra := rInt) (x := lv) 7 (da_all (d_var (ra := rInt) (x := lv) 7 (da_all (d_int (da_all (d_int (da_all (d_int (da_all0 ⟨?_, sw_1 (q := st) ⟨by show 0 < 5; decide, ?_⟩ (fun wa hwa => ?_)⟩))))))))))))))))
  · show 5 ≤ sizeLine
    omega
  · show 5 ≤ sizeLine
    omega
  refine s_ret (d_tup (da_cons (d_var (ra := rStr) (x := nm) 2 (da_cons (d_var (ra := rK5) (x := kd) 4 (da_cons (d_var (ra := rStr) (x := sn) 5 (da_cons (d_var (ra := rStr) (x := gn) 6 (da_cons (d_var (ra := rInt) (x := lv) 7 (da_cons (d_var (ra := rInt) (x := wa) 8 (da_cons (d_call N.draw (ok_draw N T) (da_cons (d_var (ra := rAdr) (x := st) 0 (da_one (d_int (sw_1 (q := st) ⟨(by walk_at "sc"), (by walk_at "sc")⟩ (fun n1 hn1' => (da_one (d_call N.draw (ok_draw N T) (da_cons (d_var (ra := rAdr) (x := st) 0 (da_one (d_int (sw_1 (q := st) ⟨(by walk_at "sc"), (by walk_at "sc")⟩ (fun n2 hn2' => hk' ⟨hn1, hn2, hyo _ hsn, hyo _ hgn2⟩)))))))))))))))))))))))))))))
end
end Law


set_option Elab.async false
set_option linter.all false
set_option maxRecDepth 100000
set_option maxHeartbeats 1500000
set_option synthInstance.maxSize 4000
set_option synthInstance.maxHeartbeats 400000
/-! RqL: requests spoilt (k22). -/
namespace Law
open PySem L2 Evl Sk MP
local macro_rules | `(tactic| walk_at "sc") => `(tactic| first | omega | assumption | trivial | (with_reducible exact mulOk) | (with_reducible exact smOk) | (with_reducible exact ⟨by decide, smOk⟩) | (with_reducible exact ⟨by omega, smOk⟩) | decide | rfl | (simp only [List.length_cons, List.length_nil]; decide) | exact divOk (by omega))
section
variable {P : Program} {w : World} {K : PySem.W.Frag} {mg : Str → Option Value} {base : Heap}
theorem sum_inl {α β : Type} {ra : Rp α} {rb : Rp β} {x : α} {K : PySem.W.Frag} {G : Hp} {v : V} (h : (rSum ra rb).rep K G v (.inl x)) : ra.rep K G v x := h
abbrev spOwn (qs p st : Addr) (rs : List Rq) (q : Rq) : List Own := [⟨p, oLst rEl, elsV q⟩, ⟨qs, oLst rRq, rs⟩, ⟨st, oSt, ()⟩]
abbrev sp_spoil (K : Fg) : Sp := spM K [] (fCons rAdr (fCons rChart (fOne (rGh (β := List Rq))))) (fun x => (0 < x.2.2.2.length ∧ x.2.2.2.length ≤ 100) ∧ ∀ r ∈ x.2.2.2, RqG r) (fun x => [⟨x.2.2.1, oLst rRq, x.2.2.2⟩, ⟨x.1, oSt, ()⟩]) rNon fun x _ O' => ∃ rs', (rs'.length = x.2.2.2.length ∧ ∀ r ∈ rs', RqG r) ∧ O' = [⟨x.2.2.1, oLst rRq, rs'⟩, ⟨x.1, oSt, ()⟩]
abbrev N_spoil : List Str := ["_law_state", "_law_chart_here", "_law_requests", "_law_at", "_law_request_here", "_law_kind_here", "_law_numbers"]
theorem sc_spoil : FnScope N_spoil ["_law_state", "_law_chart_here", "_law_requests"] (defScope s_spoil) := ⟨rfl, rfl, rfl, by decide +kernel, rfl, by decide +kernel, by decide +kernel⟩
theorem ok_spoil (N : Nm K mg) (T : Bt mg) : FnOk P w K mg base CX0 3 N.spoil.f N.spoil.fd ["_law_state", "_law_chart_here", "_law_requests"] (sp_spoil K) := by
  refine fn_m N.spoil.F sc_spoil [] fun cdv A outer s G H E x Q fam hp hk => ?_
  obtain ⟨st, c, qs, rs⟩ := x
  obtain ⟨⟨hl0, hl1⟩, hg⟩ := hp
  dsimp only at hl0 hl1 hg
  have hk' : ∀ {Γ : Gm} {rs' : List Rq}, rs'.length = rs.length → (∀ r ∈ rs', RqG r) → RT K ⟨[], _, G, H, []⟩ Γ [⟨qs, oLst rRq, rs'⟩, ⟨st, oSt, ()⟩] rNon () _ := fun {Γ rs'} e1 e2 => hk ⟨rs', ⟨e1, e2⟩, rfl⟩
  clear hk
  have z1 : 100000 ≤ sizeLine := by decide
  show DS _ K ⟨[], _, G, H, []⟩ [some ⟨rAdr, st⟩, some ⟨rChart, c⟩, some ⟨rGh (β := List Rq), (qs, rs)⟩, none, none, none, none] [⟨qs, oLst rRq, rs⟩, ⟨st, oSt, ()⟩] (defBody s_spoil) _
  refine s_gh 2 ?_
  obtain ⟨r0, g0⟩ : ∃ r0, atI rs 0 = some r0 := ⟨_, atI_nat' (k := 0) (List.getElem?_eq_getElem hl0)⟩
  have hr0 : RqG r0 := hg _ (List.mem_of_getElem? (by have := g0; unfold atI at this; rw [atI_ok (by omega) (by omega)] at this; exact this))
  refine s_set 3 (d_call N.draw (ok_draw N T) (da_cons (d_var (ra := rAdr) (x := st) 0 (da_one (d_callB T.len bt_len (da_one (d_var (ra := rAdr) (x := qs) 2 (c_lenG (rb := rRq) (sw_1 (q := st) ⟨by dsimp only; omega, by dsimp only; exact smOk (h := (Bd.of (by omega) (by omega) : Bd 30 (rs.length : Int)))⟩ (fun at0 hat => ?_))))))))))
  obtain ⟨at1, at2⟩ := hat
  dsimp only at at2
  obtain ⟨q0, gq⟩ : ∃ q0, rs[at0.toNat]? = some q0 := ⟨_, List.getElem?_eq_getElem (by omega)⟩
  have ga : atI rs at0 = some q0 := atI_int at1 gq
  have hq0 : RqG q0 := hg _ (List.mem_of_getElem? gq)
  refine s_set 4 (d_callT T.list bt_list (da_one (d_re (x := fun _ _ => True) (ra := rRq) (rc := rTpv rEl) (d_ix (d_var (ra := rAdr) (x := qs) 2 (d_var (ra := rInt) (x := at0) 3 (i_ls (rb := rRq) ga ⟨elsV q0, els_of, c_listTO (fun p hpM => ?_)⟩)))))))
  refine s_set 5 (d_call N.draw (ok_draw N T) (da_cons (d_var (ra := rAdr) (x := st) 0 (da_one (d_int (sw_1 (q := st) ⟨(by walk_at "sc"), (by walk_at "sc")⟩ (fun kd hkd => ?_)))))))
  clear hkd
  refine s_ifJ (x := decide (kd = 0)) (fun q : Rq => RqG q) (fun _ => [some ⟨rAdr, st⟩, some ⟨rChart, c⟩, some ⟨rAdr, qs⟩, some ⟨rInt, at0⟩, some ⟨rAdr, p⟩, some ⟨rInt, kd⟩, none]) (fun q => spOwn qs p st rs q) (dt_cmp (d_var (ra := rInt) (x := kd) 5 (d_int (o_eqI ⟨rfl, rfl⟩)))) (fun hb => ?_) (fun hb => ?_) (fun q1 hq1 => ?_)
  · refine s_setI (rc := rEl) (d_inl (d_call N.pick (ok_pick (ra := rStr) N T) (da_cons (d_var (ra := rAdr) (x := st) 0 (da_one (d_lst (ra := rStr) (da_all (d_str (da_all (d_str (da_all (d_str (da_all (d_str (da_all (d_str (da_all (d_ix (d_ix (d_var (ra := rAdr) (x := qs) 2 (d_int (i_ls (rb := rRq) g0 (d_int (i_tup 0 (da_all (d_str (da_all0 ⟨?_, sw_1 (q := st) ⟨by show 0 < 7; decide, ?_⟩ (fun s hs => d_var (ra := rAdr) (x := p) 4 (d_int ⟨elsV q0, _, inferInstance, by show (0 : Int) ≤ 0 ∧ (0 : Int) < ((8 : Nat) : Int); decide, ?_⟩))⟩)))))))))))))))))))))))))))
    · show 7 ≤ sizeLine
      omega
    · show 7 ≤ sizeLine
      omega
    have hs : s ∈ (["", "abc", "A B", "ABCDEF", "1A", r0.1, "Z9"] : List Str) := hs
    have hs2 : s.length ≤ 100 ∧ PyData.strOk s = true := by
      simp only [List.mem_cons, List.not_mem_nil, or_false] at hs
      rcases hs with e | e | e | e | e | e | e
      · subst e; exact ⟨by decide +kernel, by decide +kernel⟩
      · subst e; exact ⟨by decide +kernel, by decide +kernel⟩
      · subst e; exact ⟨by decide +kernel, by decide +kernel⟩
      · subst e; exact ⟨by decide +kernel, by decide +kernel⟩
      · subst e; exact ⟨by decide +kernel, by decide +kernel⟩
      · rw [e]; exact ⟨hr0.n, hr0.s⟩
      · subst e; exact ⟨by decide +kernel, by decide +kernel⟩
    exact s_join (s, q0.2) ⟨hs2.1, hs2.2, hq0.a, hq0.b⟩ ⟨rfl, rfl, rfl, rfl, rfl, rfl, trivial⟩ rfl
  · exact s_join q0 hq0 ⟨rfl, rfl, rfl, rfl, rfl, rfl, trivial⟩ rfl
  refine s_ifJ (x := decide (kd = 1)) (fun q : Rq => RqG q) (fun _ => [some ⟨rAdr, st⟩, some ⟨rChart, c⟩, some ⟨rAdr, qs⟩, some ⟨rInt, at0⟩, some ⟨rAdr, p⟩, some ⟨rInt, kd⟩, none]) (fun q => spOwn qs p st rs q) (dt_cmp (d_var (ra := rInt) (x := kd) 5 (d_int (o_eqI ⟨rfl, rfl⟩)))) (fun hb => ?_) (fun hb => ?_) (fun q2 hq2 => ?_)
  · refine s_set 6 (d_callT T.list bt_list (da_one (d_re (x := fun _ _ => True) (ra := rEl) (rc := rTpv rInt) (d_ix (d_var (ra := rAdr) (x := p) 4 (d_int (i_ls (rb := rEl) (y := .inr (.inl q1.2.1)) (atI_nat' (k := 1) rfl) ⟨_, k5_of, c_listTO (fun p2 hp2 => ?_)⟩)))))))
    refine s_setI (rc := rInt) (d_call N.pick (ok_pick (ra := rInt) N T) (da_cons (d_var (ra := rAdr) (x := st) 0 (da_one (d_lst (ra := rInt) (da_all (d_un (d_int (u_neg (da_all (d_int (da_all (d_int (da_all (d_int (da_all (d_int (da_all0 ⟨(by walk_at "sc"), sw_1 (q := st) ⟨by walk_at "sc", by walk_at "sc"⟩ (fun v hv => d_var (ra := rAdr) (x := p2) 6 (d_call N.draw (ok_draw N T) (da_cons (d_var (ra := rAdr) (x := st) 0 (da_one (d_int (sw_1 (q := st) ⟨(by walk_at "sc"), (by walk_at "sc")⟩ (fun n hn => ⟨_, _, inferInstance, ⟨hn.1, ?_⟩, ?_⟩))))))))⟩))))))))))))))))))
    · exact hn.2
    obtain ⟨k2, hk2⟩ : ∃ k2 : K5, [q1.2.1.1, q1.2.1.2.1, q1.2.1.2.2.1, q1.2.1.2.2.2.1, q1.2.1.2.2.2.2].set n.toNat v = [k2.1, k2.2.1, k2.2.2.1, k2.2.2.2.1, k2.2.2.2.2] := by
      obtain ⟨n1, n2⟩ := hn
      dsimp only at n2
      rcases (by omega : n = 0 ∨ n = 1 ∨ n = 2 ∨ n = 3 ∨ n = 4) with e | e | e | e | e
      · subst e; exact ⟨(v, q1.2.1.2), rfl⟩
      · subst e; exact ⟨(q1.2.1.1, v, q1.2.1.2.2), rfl⟩
      · subst e; exact ⟨(q1.2.1.1, q1.2.1.2.1, v, q1.2.1.2.2.2), rfl⟩
      · subst e; exact ⟨(q1.2.1.1, q1.2.1.2.1, q1.2.1.2.2.1, v, q1.2.1.2.2.2.2), rfl⟩
      · subst e; exact ⟨(q1.2.1.1, q1.2.1.2.1, q1.2.1.2.2.1, q1.2.1.2.2.2.1, v), rfl⟩
    rw [hk2]
    refine s_frz 6 hp2 ?_
    refine s_setI (rc := rEl) (d_re (x := fun _ _ => True) (ra := rTpv rInt) (rc := rEl) (d_callT T.tuple bt_tuple (da_one (d_var (ra := rLst rInt) (x := [k2.1, k2.2.1, k2.2.2.1, k2.2.2.2.1, k2.2.2.2.2]) 6 (c_tuple ⟨.inr (.inl k2), k5_to, d_var (ra := rAdr) (x := p) 4 (d_int ⟨elsV q1, _, inferInstance, by show (0 : Int) ≤ 1 ∧ (1 : Int) < ((8 : Nat) : Int); decide, ?_⟩)⟩)))))
    exact s_join (q1.1, k2, q1.2.2) ⟨hq1.n, hq1.s, hq1.a, hq1.b⟩ ⟨rfl, rfl, rfl, rfl, rfl, rfl, trivial⟩ rfl
  · exact s_join q1 hq1 ⟨rfl, rfl, rfl, rfl, rfl, rfl, trivial⟩ rfl
  refine s_ifJ (x := decide (kd = 2)) (fun q : Rq => RqG q) (fun _ => [some ⟨rAdr, st⟩, some ⟨rChart, c⟩, some ⟨rAdr, qs⟩, some ⟨rInt, at0⟩, some ⟨rAdr, p⟩, some ⟨rInt, kd⟩, none]) (fun q => spOwn qs p st rs q) (dt_cmp (d_var (ra := rInt) (x := kd) 5 (d_int (o_eqI ⟨rfl, rfl⟩)))) (fun hb => ?_) (fun hb => ?_) (fun q3 hq3 => ?_)
  · refine s_setI (rc := rEl) (d_inl (d_call N.pick (ok_pick (ra := rStr) N T) (da_cons (d_var (ra := rAdr) (x := st) 0 (da_one (d_lst (ra := rStr) (da_all (d_re (x := fun _ _ => True) (ra := rEl) (rc := rStr) (d_ix (d_var (ra := rAdr) (x := p) 4 (d_int (i_ls (rb := rEl) (y := .inl q2.2.2.2.1) (atI_nat' (k := 3) rfl) ⟨_, sum_inl, (da_all (d_str (da_all0 ⟨?_, sw_1 (q := st) ⟨by show 0 < 2; decide, ?_⟩ (fun s hs => d_var (ra := rAdr) (x := p) 4 (d_int ⟨elsV q2, _, inferInstance, by show (0 : Int) ≤ 2 ∧ (2 : Int) < ((8 : Nat) : Int); decide, ?_⟩))⟩)))⟩))))))))))))
    · show 2 ≤ sizeLine
      omega
    · show 2 ≤ sizeLine
      omega
    have hs : s ∈ ([q2.2.2.2.1, "NONE"] : List Str) := hs
    have hs2 : PyData.strOk s = true := by
      simp only [List.mem_cons, List.not_mem_nil, or_false] at hs
      rcases hs with e | e
      · rw [e]; exact hq2.b
      · subst e; decide +kernel
    exact s_join (q2.1, q2.2.1, s, q2.2.2.2) ⟨hq2.n, hq2.s, hs2, hq2.b⟩ ⟨rfl, rfl, rfl, rfl, rfl, rfl, trivial⟩ rfl
  · exact s_join q2 hq2 ⟨rfl, rfl, rfl, rfl, rfl, rfl, trivial⟩ rfl
  refine s_ifJ (x := decide (kd = 3)) (fun q : Rq => RqG q) (fun _ => [some ⟨rAdr, st⟩, some ⟨rChart, c⟩, some ⟨rAdr, qs⟩, some ⟨rInt, at0⟩, some ⟨rAdr, p⟩, some ⟨rInt, kd⟩, none]) (fun q => spOwn qs p st rs q) (dt_cmp (d_var (ra := rInt) (x := kd) 5 (d_int (o_eqI ⟨rfl, rfl⟩)))) (fun hb => ?_) (fun hb => ?_) (fun q4 hq4 => ?_)
  · refine s_setI (rc := rEl) (d_inl (d_call N.pick (ok_pick (ra := rStr) N T) (da_cons (d_var (ra := rAdr) (x := st) 0 (da_one (d_lst (ra := rStr) (da_all (d_re (x := fun _ _ => True) (ra := rEl) (rc := rStr) (d_ix (d_var (ra := rAdr) (x := p) 4 (d_int (i_ls (rb := rEl) (y := .inl q3.2.2.1) (atI_nat' (k := 2) rfl) ⟨_, sum_inl, (da_all (d_str (da_all0 ⟨?_, sw_1 (q := st) ⟨by show 0 < 2; decide, ?_⟩ (fun s hs => d_var (ra := rAdr) (x := p) 4 (d_int ⟨elsV q3, _, inferInstance, by show (0 : Int) ≤ 3 ∧ (3 : Int) < ((8 : Nat) : Int); decide, ?_⟩))⟩)))⟩))))))))))))
    · show 2 ≤ sizeLine
      omega
    · show 2 ≤ sizeLine
      omega
    have hs : s ∈ ([q3.2.2.1, "NONE"] : List Str) := hs
    have hs2 : PyData.strOk s = true := by
      simp only [List.mem_cons, List.not_mem_nil, or_false] at hs
      rcases hs with e | e
      · rw [e]; exact hq3.a
      · subst e; decide +kernel
    exact s_join (q3.1, q3.2.1, q3.2.2.1, s, q3.2.2.2.2) ⟨hq3.n, hq3.s, hq3.a, hs2⟩ ⟨rfl, rfl, rfl, rfl, rfl, rfl, trivial⟩ rfl
  · exact s_join q3 hq3 ⟨rfl, rfl, rfl, rfl, rfl, rfl, trivial⟩ rfl
  refine s_ifJ (x := decide (kd = 4)) (fun q : Rq => RqG q) (fun _ => [some ⟨rAdr, st⟩, some ⟨rChart, c⟩, some ⟨rAdr, qs⟩, some ⟨rInt, at0⟩, some ⟨rAdr, p⟩, some ⟨rInt, kd⟩, none]) (fun q => spOwn qs p st rs q) (dt_cmp (d_var (ra := rInt) (x := kd) 5 (d_int (o_eqI ⟨rfl, rfl⟩)))) (fun hb => ?_) (fun hb => ?_) (fun q5 hq5 => ?_)
  · refine s_setI (rc := rEl) (d_inr (d_inr (d_call N.pick (ok_pick (ra := rInt) N T) (da_cons (d_var (ra := rAdr) (x := st) 0 (da_one (d_lst (ra := rInt) (da_all (d_un (d_int (u_neg (da_all (d_int (da_all (d_int (da_all (d_int (da_all0 ⟨(by walk_at "sc"), sw_1 (q := st) ⟨by walk_at "sc", by walk_at "sc"⟩ (fun v hv => d_var (ra := rAdr) (x := p) 4 (d_bin (d_int (d_call N.draw (ok_draw N T) (da_cons (d_var (ra := rAdr) (x := st) 0 (da_one (d_int (sw_1 (q := st) ⟨(by walk_at "sc"), (by walk_at "sc")⟩ (fun n hn => o_add ⟨elsV q4, _, inferInstance, ?_, ?_⟩))))))))))⟩))))))))))))))))))
    · obtain ⟨n1, n2⟩ := hn
      dsimp only at n2
      show (0 : Int) ≤ 4 + n ∧ 4 + n < ((8 : Nat) : Int)
      omega
    obtain ⟨n1, n2⟩ := hn
    dsimp only at n2
    rcases (by omega : n = 0 ∨ n = 1) with e | e
    · subst e
      exact s_join (q4.1, q4.2.1, q4.2.2.1, q4.2.2.2.1, v, q4.2.2.2.2.2) ⟨hq4.n, hq4.s, hq4.a, hq4.b⟩ ⟨rfl, rfl, rfl, rfl, rfl, rfl, trivial⟩ rfl
    · subst e
      exact s_join (q4.1, q4.2.1, q4.2.2.1, q4.2.2.2.1, q4.2.2.2.2.1, v, q4.2.2.2.2.2.2) ⟨hq4.n, hq4.s, hq4.a, hq4.b⟩ ⟨rfl, rfl, rfl, rfl, rfl, rfl, trivial⟩ rfl
  · exact s_join q4 hq4 ⟨rfl, rfl, rfl, rfl, rfl, rfl, trivial⟩ rfl
  refine s_ifJ (x := decide (kd = 5)) (fun q : Rq => RqG q) (fun _ => [some ⟨rAdr, st⟩, some ⟨rChart, c⟩, some ⟨rAdr, qs⟩, some ⟨rInt, at0⟩, some ⟨rAdr, p⟩, some ⟨rInt, kd⟩, none]) (fun q => spOwn qs p st rs q) (dt_cmp (d_var (ra := rInt) (x := kd) 5 (d_int (o_eqI ⟨rfl, rfl⟩)))) (fun hb => ?_) (fun hb => ?_) (fun q6 hq6 => ?_)
  · refine s_setI (rc := rEl) (d_inr (d_inr (d_call N.pick (ok_pick (ra := rInt) N T) (da_cons (d_var (ra := rAdr) (x := st) 0 (da_one (d_lst (ra := rInt) (da_all (d_un (d_int (u_neg (da_all (d_int (da_all (d_int (da_all (d_int (da_all0 ⟨(by walk_at "sc"), sw_1 (q := st) ⟨by walk_at "sc", by walk_at "sc"⟩ (fun v hv => d_var (ra := rAdr) (x := p) 4 (d_int ⟨elsV q5, _, inferInstance, by show (0 : Int) ≤ 6 ∧ (6 : Int) < ((8 : Nat) : Int); decide, ?_⟩))⟩))))))))))))))))))
    exact s_join (q5.1, q5.2.1, q5.2.2.1, q5.2.2.2.1, q5.2.2.2.2.1, q5.2.2.2.2.2.1, v, q5.2.2.2.2.2.2.2) ⟨hq5.n, hq5.s, hq5.a, hq5.b⟩ ⟨rfl, rfl, rfl, rfl, rfl, rfl, trivial⟩ rfl
  · exact s_join q5 hq5 ⟨rfl, rfl, rfl, rfl, rfl, rfl, trivial⟩ rfl
  refine s_ifJ (x := decide (kd = 6)) (fun q : Rq => RqG q) (fun _ => [some ⟨rAdr, st⟩, some ⟨rChart, c⟩, some ⟨rAdr, qs⟩, some ⟨rInt, at0⟩, some ⟨rAdr, p⟩, some ⟨rInt, kd⟩, none]) (fun q => spOwn qs p st rs q) (dt_cmp (d_var (ra := rInt) (x := kd) 5 (d_int (o_eqI ⟨rfl, rfl⟩)))) (fun hb => ?_) (fun hb => ?_) (fun q7 hq7 => ?_)
  · refine s_setI (rc := rEl) (d_inr (d_inr (d_call N.pick (ok_pick (ra := rInt) N T) (da_cons (d_var (ra := rAdr) (x := st) 0 (da_one (d_lst (ra := rInt) (da_all (d_un (d_int (u_neg (da_all (d_int (da_all (d_int (da_all (d_int (da_all0 ⟨(by walk_at "sc"), sw_1 (q := st) ⟨by walk_at "sc", by walk_at "sc"⟩ (fun v hv => d_var (ra := rAdr) (x := p) 4 (d_int ⟨elsV q6, _, inferInstance, by show (0 : Int) ≤ 7 ∧ (7 : Int) < ((8 : Nat) : Int); decide, ?_⟩))⟩))))))))))))))))))
    exact s_join (q6.1, q6.2.1, q6.2.2.1, q6.2.2.2.1, q6.2.2.2.2.1, q6.2.2.2.2.2.1, q6.2.2.2.2.2.2.1, v) ⟨hq6.n, hq6.s, hq6.a, hq6.b⟩ ⟨rfl, rfl, rfl, rfl, rfl, rfl, trivial⟩ rfl
  · exact s_join q6 hq6 ⟨rfl, rfl, rfl, rfl, rfl, rfl, trivial⟩ rfl
  refine s_setI (rc := rRq) (d_re (x := fun _ _ => True) (ra := rTpv rEl) (rc := rRq) (d_callT T.tuple bt_tuple (da_one (d_var (ra := rAdr) (x := p) 4 (c_tuple (rb := rEl) ⟨q7, els_to, d_var (ra := rAdr) (x := qs) 2 (d_var (ra := rInt) (x := at0) 3 ⟨rs, _, inferInstance, ⟨at1, at2⟩, ?_⟩)⟩)))))
  refine s_fall (rt_sub (List.sublist_cons_self _ _) (hk' (rs' := rs.set at0.toNat q7) (List.length_set ..) fun r hr => ?_))
  rcases List.mem_or_eq_of_mem_set hr with z | z
  · exact hg r z
  · rw [z]; exact hq7
end
end Law


set_option Elab.async false
set_option linter.all false
set_option maxRecDepth 100000
set_option maxHeartbeats 1500000
set_option synthInstance.maxSize 4000
set_option synthInstance.maxHeartbeats 400000
/-! Z22: the law of k22. -/
namespace Law
open PySem L2 Evl Sk MP
local macro_rules | `(tactic| walk_at "sc") => `(tactic| first | omega | assumption | trivial | (with_reducible exact mulOk) | (with_reducible exact smOk) | (with_reducible exact ⟨by decide, smOk⟩) | (with_reducible exact ⟨by omega, smOk⟩) | decide | rfl | (simp only [List.length_cons, List.length_nil]; decide) | exact divOk (by omega))
theorem no_ne {α : Type} [DecidableEq α] {a b : α} (h : a = b) : (!decide (a = b)) = false := by rw [decide_eq_true h]; rfl
theorem ho_so {ch : ChV} (hc : ChOk ch) (hh : HoAt (lgOf ch) (hoOf ch)) {n m : Str} (e : valX (hoOf ch) (Sum.inr n) = some m) : PyData.strOk m = true := by
  obtain ⟨⟨l, h1, _, h3⟩, _⟩ := hh n m e
  rw [← h3]
  exact (hc.so l h1).2.1
theorem lp_so {ch : ChV} (hc : ChOk ch) (hh : HoAt (lgOf ch) (hoOf ch)) {r y : List Str} {n : Int} (hr : ∀ z ∈ r, PyData.strOk z = true) (e : loopV (hoOf ch) r n = .inl y) : ∀ z ∈ y, PyData.strOk z = true := by
  unfold loopV at e
  split at e
  · have e := Sum.inl.inj e
    subst e
    exact hr
  · split at e
    · cases e
    · rename_i i hi
      split at e
      · cases e
      · have e := Sum.inl.inj e
        subst e
        obtain ⟨p1, p2, _⟩ := List.find?_range_eq_some.mp hi
        have hi := List.mem_range.mp p2
        obtain ⟨m, hm⟩ := Option.isSome_iff_exists.mp p1
        intro z hz
        rcases List.mem_append.mp hz with y | y
        · rcases List.mem_append.mp y with y | y
          · exact hr z (List.mem_of_mem_take y)
          · obtain ⟨l, hl, hzl⟩ := List.mem_flatten.mp y
            have el := (List.mem_replicate.mp hl).2
            subst el
            rw [hm] at hzl
            simp only [Option.getD_some, List.mem_cons, List.not_mem_nil, or_false] at hzl
            rcases hzl with e | e
            · rw [e]
              exact ho_so hc hh hm
            · rw [e]
              exact hr _ (at_mem (by omega))
        · exact hr z (List.mem_of_mem_drop y)
theorem prs_so {c : ChV} {q : Rq} (h : RqR c q) : ∀ r ∈ prsV c q, ∀ z ∈ r, PyData.strOk z = true := fun y hy => by
  obtain ⟨⟨m, ns, hc⟩, hs, hn⟩ := h
  obtain ⟨r, hr, hy⟩ := List.mem_flatMap.mp hy
  obtain ⟨x, hx, e⟩ := List.mem_map.mp hr
  obtain ⟨d, hd, e2⟩ := all_mem.mp (cut_mem hx)
  have hrt := (dn_ok hc.ok hs hn d hd).rt (by decide)
  subst e2
  have e : d = r := e
  subst e
  obtain ⟨n, _, hy⟩ := List.mem_flatMap.mp hy
  cases hl : loopV (hoOf c) d n with
  | inl w =>
    rw [hl] at hy
    have hy : y ∈ [w] := hy
    rw [List.mem_singleton.mp hy]
    exact lp_so hc.ok hc.ho (hrt.so hc.ok) hl
  | inr w =>
    rw [hl] at hy
    exact absurd (show y ∈ [] from hy) List.not_mem_nil
abbrev gOp (o : Op) : Prop := ((∀ z ∈ o.1.1, PyData.strOk z = true) ∧ True ∧ True) ∧ True
theorem mn_so {q : Rq} {rs : List Rt} (h : ∀ r ∈ rs, ∀ z ∈ r, PyData.strOk z = true) : ∀ o ∈ mnV q rs, gOp o := fun o ho => by
  obtain ⟨d, _, ho⟩ := List.mem_flatMap.mp ho
  obtain ⟨r, hr, ho⟩ := List.mem_flatMap.mp ho
  obtain ⟨t, _, ho⟩ := List.mem_flatMap.mp ho
  obtain ⟨sp, _, e⟩ := List.mem_map.mp ho
  subst e
  exact ⟨⟨h r hr, trivial, trivial⟩, trivial⟩
theorem ci_so {c : ChV} {rs : List Rq} : ∀ y, flwV c rs = some y → PyData.strOk y.1 = true ∧ True := fun y e => by
  unfold flwV at e
  obtain ⟨k, _, e⟩ := Option.map_eq_some_iff.mp e
  subst e
  exact ⟨(rq_msg _ _ _).2, trivial⟩
theorem rqv_fix {c : ChV} {q : Rq} {ns : List Str} (h : rqV c q ns = "") : fixV c q = true := by
  unfold rqV at h
  split at h
  · exact absurd h (by decide +kernel)
  split at h
  · exact absurd h (by decide +kernel)
  split at h
  · exact absurd h (by decide +kernel)
  rename_i h1
  rw [Bool.not_eq_false] at h1
  exact h1
theorem rqr_of {c : ChV} {q : Rq} {m : Int} {ns : List Str} (hc : ChQ c m ns) (h : rqV c q [] = "") : RqR c q := by
  have hf := rqv_fix h
  unfold fixV at hf
  rw [Bool.and_eq_true, Bool.and_eq_true, Bool.not_eq_true', decide_eq_false_iff_not] at hf
  refine ⟨⟨_, _, hc⟩, ?_, hf.2⟩
  have h1 : (valX (fxOf c) (Sum.inr q.2.2.1)).isSome = true := hf.1.1
  rw [← valX_any] at h1
  obtain ⟨u, hu, e⟩ := List.any_eq_true.mp h1
  have e := of_decide_eq_true e
  have h2 : u.1 ∈ (fxOf c).map (·.1) := List.mem_map.mpr ⟨u, hu, rfl⟩
  rw [hc.ky, e] at h2
  obtain ⟨n, hn, e2⟩ := List.mem_map.mp h2
  have e2 := Sum.inr.inj e2
  subst e2
  exact hc.pt hn
theorem nm_ok : ∀ nm ∈ (["A", "F12", "ZZZZZ", "Q0"] : List Str), ∀ i : Nat, i < 4 → (cutS nm none (some 4) ++ Str.ofString (toString (i : Int))).length ≤ 100 ∧ PyData.strOk (cutS nm none (some 4) ++ Str.ofString (toString (i : Int))) = true ∧ nm.length ≤ 5 ∧ (cutS nm none (some 4)).length + (Str.ofString (toString (i : Int))).length ≤ 100 := by decide +kernel
theorem all2_map {α β : Type} {p : V → α → Prop} {p' : V → β → Prop} {f : α → β} (h : ∀ v x, p v x → p' v (f x)) : ∀ {vs : List V} {xs : List α}, All2 p vs xs → All2 p' vs (xs.map f)
  | [], [], _ => trivial
  | _ :: _, _ :: _, ⟨a, b⟩ => ⟨h _ _ a, all2_map h b⟩
  | [], _ :: _, z => z.elim
  | _ :: _, [], z => z.elim
section
variable {P : Program} {w : World} {K : PySem.W.Frag} {mg : Str → Option Value} {base : Heap}
abbrev sp_law (K : Fg) (T : List Addr) : Sp := sp0 K T (fOne (rSeq rInt)) (fun ns => ns.length ≤ 63) rBool fun _ y => y = true
abbrev N_law : List Str := ["_law_script", "_law_state", "_law_chart_here", "_law_requests", "_law_k", "_law_name", "_law_flaw_here", "_law_kept", "_law_request_here", "_law_due", "_law_found"]
theorem sc_law : FnScope N_law ["_law_script"] (defScope s_law) := ⟨rfl, rfl, rfl, by decide +kernel, rfl, by decide +kernel, by decide +kernel⟩
theorem ok_law (N : Nm K mg) (T : Bt mg) (hP : P.main = pM) (Y : Tb0 N base) : FnOk P w K mg base CX0 8 N.law.f N.law.fd ["_law_script"] (sp_law K (tsOf N)) := by
  refine fn_m N.law.F sc_law (tsOf N) fun cdv A outer s G H E x Q fam hp hk => ?_
  have hk' : ∀ {Γ : Gm} {O : List Own}, RT K ⟨tsOf N, _, G, H, []⟩ Γ O rBool true _ := fun {Γ O} => rt_drop (hk ⟨rfl, rfl⟩)
  clear hk
  have z1 : 100000 ≤ sizeLine := by decide
  have nf : ∀ {q : Prop}, false = true → q := fun {q} h => Bool.noConfusion h
  show DS _ K ⟨tsOf N, _, G, H, []⟩ [some ⟨(rSeq rInt), x⟩, none, none, none, none, none, none, none, none, none, none] [] (defBody s_law) _
  refine s_set 1 (d_call N.start (ok_start N T) (da_one (d_var 0 (sw_n hp (fun q _ _ => ?_)))))
  refine s_set 2 (d_call N.small_chart (ok_small_chart N T) (da_one (d_var (ra := rAdr) (x := q) 1 (sw_small (fun qc ch ns m ql qh hc0 hh0 hlg hq hl hh => ?_)))))
  refine s_chDone 2 hq hl hh ?_
  refine s_set 3 (d_lstO (ra := rRq) (da_all0 ⟨(by walk_at "sc"), fun p hpM => ?_⟩))
  refine s_for (js := [4]) (w_rng1 T.range (d_bin (d_int (d_call N.draw (ok_draw N T) (da_cons (d_var (ra := rAdr) (x := q) 1 (da_one (d_int (sw_1 (q := q) ⟨(by walk_at "sc"), (by walk_at "sc")⟩ (fun n hn => (o_add ⟨by have z : 0 ≤ n ∧ n < 4 := hn; omega, ?_⟩)))))))))))
  have hn : 0 ≤ n ∧ n < 4 := hn
  refine ⟨List Rq, fun i D => D.length = i ∧ ∀ r ∈ D, RqG r, fun _ => [some ⟨(rSeq rInt), x⟩, some ⟨rAdr, q⟩, some ⟨rChart, ch⟩, some ⟨rAdr, p⟩, none, none, none, none, none, none, none], fun D => [⟨p, oLst rRq, D⟩, ⟨q, oSt, ()⟩], ⟨[], ⟨rfl, fun r h => absurd h List.not_mem_nil⟩, ⟨rfl, rfl, rfl, rfl, trivial⟩, rfl⟩, fun g i k0 D hx hD => (g_name 4 ?_), fun D hD => ?_⟩
  · obtain ⟨hlt, ex⟩ := rgI_item hx
    have ex : k0 = (i : Int) := by omega
    subst ex
    have hi4 : i < 4 := by omega
    obtain ⟨hD1, hD2⟩ := hD
    refine s_set 5 (d_call N.pick (ok_pick (ra := rStr) N T) (da_cons (d_var (ra := rAdr) (x := q) 1 (da_one (d_lst (ra := rStr) (da_all (d_str (da_all (d_str (da_all (d_str (da_all (d_str (da_all0 ⟨(by walk_at "sc"), sw_1 (q := q) ⟨by walk_at "sc", by walk_at "sc"⟩ (fun nm hnm => ?_)⟩))))))))))))))
    obtain ⟨h1, h2, h3, h4⟩ := nm_ok nm hnm i hi4
    refine s_expr (d_app (ra := rRq) (d_var (ra := rAdr) (x := p) 3 ⟨_, _, inferInstance, d_call N.request (ok_request N T) (da_cons (d_var (ra := rAdr) (x := q) 1 (da_cons (d_var (ra := rChart) (x := ch) 2 (da_one (d_bin (d_slice (d_var (ra := rStr) (x := nm) 5 (do_no (do_at (d_int (sl_s (by omega) (d_callT T.str bt_str (da_one (d_var (ra := rInt) (x := (i : Int)) 4 (c_strI ?_ (o_addS (Nat.le_trans h4 (by omega)) (sw_1 (q := q) ⟨⟨_, _, hc0⟩, h1, h2⟩ (fun r hr => ⟨_, _, inferInstance, ?_, ?_⟩)))))))))))))))))))⟩))
    · have h5 : i.log2 ≤ 4 := by
        rcases (by omega : i = 0 ∨ i = 1 ∨ i = 2 ∨ i = 3) with e | e | e | e
        all_goals (subst e; decide)
      show i.log2 < 1920
      omega
    · show D.length < sizeLine
      omega
    · refine s_next (D ++ [r]) ⟨?_, fun z hz => ?_⟩ ⟨rfl, rfl, rfl, rfl, trivial⟩ rfl
      · rw [List.length_append, hD1]; rfl
      · rcases List.mem_append.mp hz with y | y
        · exact hD2 z y
        · rw [List.mem_singleton.mp y]; exact hr
  obtain ⟨hD1, hD2⟩ := hD
  rw [rgI_len] at hD1
  have hDl : 0 < D.length ∧ D.length ≤ 4 := by omega
  clear hD1
  refine s_for (js := [4]) (w_rng1 T.range (d_call N.draw (ok_draw N T) (da_cons (d_var (ra := rAdr) (x := q) 1 (da_one (d_int (sw_1 (q := q) ⟨(by walk_at "sc"), (by walk_at "sc")⟩ (fun n2 hn2 => ⟨by have z : 0 ≤ n2 ∧ n2 < 4 := hn2; omega, ?_⟩))))))))
  refine ⟨List Rq, fun i D => (0 < D.length ∧ D.length ≤ 4) ∧ ∀ r ∈ D, RqG r, fun _ => [some ⟨(rSeq rInt), x⟩, some ⟨rAdr, q⟩, some ⟨rChart, ch⟩, some ⟨rAdr, p⟩, none, none, none, none, none, none, none], fun D => [⟨p, oLst rRq, D⟩, ⟨q, oSt, ()⟩], ⟨D, ⟨hDl, hD2⟩, ⟨rfl, rfl, rfl, rfl, trivial⟩, rfl⟩, fun g i k0 D hx hD => (g_name 4 ?_), fun rs hD => ?_⟩
  · obtain ⟨⟨hD0, hD1⟩, hD2⟩ := hD
    refine s_expr (d_call N.spoil (ok_spoil N T) (da_cons (d_var (ra := rAdr) (x := q) 1 (da_cons (d_var (ra := rChart) (x := ch) 2 (da_one (d_gh D (d_var (ra := rAdr) (x := p) 3 (sw_m [] ⟨⟨hD0, by dsimp only; omega⟩, hD2⟩ (fun w hw => by simpa using hw) (fun z => by simpa using z) (fun y O' hy => ?_))))))))))
    obtain ⟨rs', ⟨e1, e2⟩, e3⟩ := hy
    subst e3
    have e1 : rs'.length = D.length := e1
    exact s_next rs' ⟨⟨by omega, by omega⟩, e2⟩ ⟨rfl, rfl, rfl, rfl, trivial⟩ rfl
  obtain ⟨⟨hD0, hD1⟩, hD2⟩ := hD
  have hrs : RsOk rs := ⟨by omega, fun r hr => (hD2 r hr).ok⟩
  refine s_frz 3 hpM ?_
  refine s_set 6 (d_call N.flaw (ok_flaw N T) (da_cons (d_var (ra := rChart) (x := ch) 2 (da_one (d_var (ra := rLst rRq) (x := rs) 3 (sw_f hrs ?_))))))
  dsimp only
  refine s_set 7 (d_callT T.list bt_list (da_one (d_var (ra := rLst rRq) (x := rs) 3 (c_list ?_))))
  have grs : ∀ q ∈ rs, PyData.strOk q.1 = true ∧ (True ∧ True ∧ True ∧ True ∧ True) ∧ PyData.strOk q.2.2.1 = true ∧ PyData.strOk q.2.2.2.1 = true ∧ True ∧ True ∧ True ∧ True := fun q hq => ⟨(hD2 q hq).s, ⟨trivial, trivial, trivial, trivial, trivial⟩, (hD2 q hq).a, (hD2 q hq).b, trivial, trivial, trivial, trivial⟩
  refine s_ifP (x := false) (dt_bool (dp_orP (x := false) (y := false) (dt_cmp (d_call N.checked (ok_checked N T Y hP) (da_cons (d_var (ra := rChart) (x := ch) 2 (da_one (d_var (ra := rLst rRq) (x := rs) 3 (sw_f hrs (d_var (ra := rOpt rCI) (x := flwV ch rs) 6 (o_neD ci_so ci_so ⟨no_ne rfl, rfl⟩))))))))) (fun _ => dp_or1 (dt_cmp (d_var (ra := rLst rRq) (x := rs) 3 (d_var (ra := rLst rRq) (x := rs) 7 (o_neD grs grs ⟨no_ne rfl, rfl⟩))))))) (fun hb => nf hb) (fun _ => s_out ?_)
  clear grs
  refine s_for (js := [8]) (w_lst (d_var (ra := rLst rRq) (x := rs) 3 ?_))
  refine ⟨Unit, fun _ _ => True, fun _ => [some ⟨(rSeq rInt), x⟩, some ⟨rAdr, q⟩, some ⟨rChart, ch⟩, some ⟨rLst rRq, rs⟩, none, none, none, none, none, none, none], fun _ => [⟨q, oSt, ()⟩], ⟨(), trivial, ⟨rfl, rfl, rfl, rfl, trivial⟩, rfl⟩, fun g i r d hx hd => (g_name 8 ?_), fun _ _ => s_ret (d_bl hk')⟩
  have hrg := hD2 r (List.mem_of_getElem? hx)
  refine s_ifP (x := decide (rqV ch r [] = "")) (dt_cmp (d_call N.code (ok_code N T) (da_cons (d_var (ra := rChart) (x := ch) 2 (da_cons (d_var (ra := rRq) (x := r) 8 (da_one (d_lst (ra := rStr) (da_all0 ⟨(by walk_at "sc"), sw_f hrg.ok (d_str (o_eqS ⟨rfl, rfl⟩))⟩))))))))) (fun hb => ?_) (fun hb => ?_)
  · have hR := rqr_of hc0 (of_decide_eq_true hb)
    have hso := prs_so hR
    have hgo := mn_so (q := r) hso
    refine s_set 9 (d_call N.law_menu (ok_law_menu N T) (da_cons (d_var (ra := rChart) (x := ch) 2 (da_one (d_var (ra := rRq) (x := r) 8 (sw_f hR ?_))))))
    dsimp only
    refine s_set 10 (d_call N.menu (ok_menu N T Y hP) (da_cons (d_var (ra := rChart) (x := ch) 2 (da_one (d_var (ra := rRq) (x := r) 8 (sw_n hR (fun p2 d2 hd2 => ?_)))))))
    have hd2 : d2 = mnV r (prsV ch r) := hd2
    have hml : (mnV r (prsV ch r)).length ≤ 32 := by
      have h1 := flm_len (xs := [(0 : Int), 8]) fun d _ => mn0_len r (prsV ch r) (r.2.2.2.2.2.2.1 + d)
      have h2 := prs_len ch r
      have h3 : [(0 : Int), 8].length = 2 := rfl
      show ([(0 : Int), 8].flatMap fun d => mn0 r (prsV ch r) (r.2.2.2.2.2.2.1 + d)).length ≤ 32
      rw [h3] at h1
      omega
    subst hd2
    generalize hmv : mnV r (prsV ch r) = mv at hgo hml ⊢
    refine s_ifP (x := false) (dt_bool (dp_orP (x := false) (y := false) (dt_notP (x := true) (dt_val (d_callB T.isi bt_isi (da_cons (d_var (ra := rAdr) (x := p2) 10 (da_one (d_cls T.list bt_list (c_isiO (rb := rOp) (b := true) (kit_ty isi_list_list) ⟨rfl, rfl⟩)))))))) (fun _ => dp_or1 (dt_cmp (d_var (ra := rAdr) (x := p2) 10 (d_var (ra := rLst rOp) (x := mv) 9 (o_neG hgo hgo ⟨no_ne rfl, rfl⟩))))))) (fun hb => nf hb) (fun _ => s_out ?_)
    refine s_view (q := p2) (r := oLst rOp) (x := mv) (r' := oLst (rSum rOp rStr)) (x' := mv.map .inl) inferInstance (fun ⟨ws, e, h⟩ => ⟨ws, e, all2_map (f := Sum.inl) (p' := (rSum rOp rStr).rep _ _) (fun _ _ z => z) h⟩) ?_
    refine s_expr (d_app (ra := rSum rOp rStr) (d_var (ra := rAdr) (x := p2) 10 ⟨_, _, inferInstance, d_inr (d_str ⟨_, _, inferInstance, ?_, ?_⟩)⟩))
    · rw [List.length_map]
      omega
    refine s_ifP (x := false) (dt_cmp (rb := rLst rOp) (d_frzE (ra := rOp) (d_call N.menu (ok_menu N T Y hP) (da_cons (d_var (ra := rChart) (x := ch) 2 (da_one (d_var (ra := rRq) (x := r) 8 (sw_nF hR (fun p3 d3 hd3 hM3 => ⟨d3, _, rfl, hM3, ?_⟩))))))))) (fun hb => nf hb) (fun _ => s_out ?_)
    · have e3 : d3 = mv := hd3.trans hmv
      subst e3
      exact d_var (ra := rLst rOp) (x := d3) 9 (o_neD hgo hgo ⟨no_ne rfl, rfl⟩)
    · exact s_out (s_sub (List.sublist_cons_self _ _) (s_next () trivial ⟨rfl, rfl, rfl, rfl, trivial⟩ rfl))
  · exact s_out (s_next () trivial ⟨rfl, rfl, rfl, rfl, trivial⟩ rfl)
end
end Law


set_option Elab.async false
set_option linter.all false
set_option maxRecDepth 100000
set_option maxHeartbeats 4100000
namespace Law
open PySem L2 Evl Sk
def fnL : List He.DefD := [dD "root_up" s_root_up, dD "is_name" s_is_name, dD "leg_length" s_leg_length, dD "open_legs" s_open_legs, dD "is_kind" s_is_kind, dD "route_length" s_route_length, dD "alternatives" s_alternatives, dD "with_loops" s_with_loops, dD "check_requests" s_check_requests, dD "flaw_of" s_flaw_of, dD "possible_routes" s_possible_routes, dD "different" s_different, dD "menu" s_menu, dD "_law_start" s_start, dD "_law_draw" s_draw, dD "_law_pick" s_pick, dD "_law_root_up" s_law_root_up, dD "_law_names" s_names, dD "_law_legs" s_legs, dD "_law_chart" s_chart, dD "_law_lengths" s_lengths, dD "_law_route_length" s_law_route_length, dD "_law_kind" s_kind, dD "_law_small_chart" s_small_chart, dD "_law_request" s_request, dD "_law_is_name" s_law_is_name, dD "_law_code" s_code, dD "_law_flaw" s_flaw, dD "_law_checked" s_checked, dD "_law_spoil" s_spoil, dD "_law_routes" s_routes, dD "_law_menu" s_law_menu, dD "law" s_law]
def faL : List He.Fa := [.glo "root_up", .glo "is_name", .glo "leg_length", .glo "open_legs", .glo "is_kind", .glo "route_length", .glo "alternatives", .glo "with_loops", .glo "check_requests", .glo "flaw_of", .glo "possible_routes", .glo "different", .glo "menu", .glo "_law_start", .glo "_law_draw", .glo "_law_pick", .glo "_law_root_up", .glo "_law_names", .glo "_law_legs", .glo "_law_chart", .glo "_law_lengths", .glo "_law_route_length", .glo "_law_kind", .glo "_law_small_chart", .glo "_law_request", .glo "_law_is_name", .glo "_law_code", .glo "_law_flaw", .glo "_law_checked", .glo "_law_spoil", .glo "_law_routes", .glo "_law_menu", .glo "law", .free "ValueError", .free "all", .free "sum", .free "range", .free "sorted", .free "enumerate", .free "len", .free "tuple", .free "min", .free "max", .free "list", .free "int", .free "isinstance", .free "bool", .free "abs", .free "super", .free "zip", .free "any", .free "str", .int "HIGHEST" 600, .int "LONGEST_NAME" 5, .str "CAPITALS" "ABCDEFGHIJKLMNOPQRSTUVWXYZ", .str "NAME_CHARACTERS" "ABCDEFGHIJKLMNOPQRSTUVWXYZ0123456789", .int "CLASSES" 4, .int "FASTEST" 10000, .int "STEEPEST" 100, .int "MOST_NAMES" 16, .int "MOST_SIMPLE" 8, .int "LAST_TICK" 90000, .int "LATEST" 10000, .int "ROUTES" 2]
def exA (K : PySem.W.Frag) : Bool := decide (PySem.W.nsIn K mainGlobals "isqrt" = some (some (.builtin "math.isqrt")))
def xcL : List XcD := [⟨"RouteError", "RouteError.__init__", s_RouteError_init, ["code", "index"]⟩, ⟨"RequestError", "RequestError.__init__", s_RequestError_init, ["code", "index"]⟩]
def exB (K : PySem.W.Frag) : Bool := exA K && (kcB K "DELAYS" cd_DELAYS && (kcB K "LOOPS" cd_LOOPS && ((xcL.all fun x => x.ok K pM.file))))
theorem bi_33 {K : PySem.W.Frag} {h : Heap} {mg : Str → Option Value} (X : K.In h) (G : h.Ns mainGlobals mg) (c : exA K = true) : mg "isqrt" = some (.builtin "math.isqrt") := PySem.W.mg_of X G (of_decide_eq_true c)
theorem facts {l : PySem.W.OpenLaw} {w : World} {K : PySem.W.Frag} {h : Heap} {mg : Str → Option Value} {f : Addr} (hP : l.prog.main = pM) (X : K.In h) (G : h.Ns mainGlobals mg) (hfa : mg "law" = some (.ref f)) (c : He.SaysX faL fnL [] [("is_name", none), ("route_length", none)] exB w h K) (ce : xcL.map (fnB K) = xcL.map XcD.val) :
    ∃ (K : Fg) (fd : FuncData) (cs : List (Addr × Addr)), K.In h ∧ (∀ p ∈ cs, h.get? p.2 = some { cls := .none, data := .fields #[] }) ∧ (∀ p ∈ cs, K.lookup p.2 = none) ∧ (∀ p ∈ cs, PySem.W.codeHdIn K p.1 p.2 = true) ∧ (∀ (s : Shared) (u : Value), BindsTo s fd ⟨[u], []⟩ [("_law_script", u)]) ∧
      ∀ base : Heap, K.In base → base.Ns mainGlobals mg → (∀ p ∈ cs, GxR.TabB base mg p.1 p.2) → FnOk l.prog w K mg base CX0 8 f fd ["_law_script"] (sp0 K (cs.map (·.2)) (fOne (rSeq rInt)) (fun ns => ns.length ≤ 63) rBool fun _ y => y = true) := by
  obtain ⟨D0, e0, d0⟩ := df_of c.t.d X G 0 0 (n := "root_up") (st := s_root_up) (ps := ["n"]) rfl rfl (fun _ _ F => F.binds fun _ _ _ _ _ _ us hl => match us, hl with | [_], _ => rfl)
  obtain ⟨D1, e1, d1⟩ := df_of c.t.d X G 1 1 (n := "is_name") (st := s_is_name) (ps := ["thing"]) rfl rfl (fun _ _ F => F.binds fun _ _ _ _ _ _ us hl => match us, hl with | [_], _ => rfl)
  obtain ⟨D2, e2, d2⟩ := df_of c.t.d X G 2 2 (n := "leg_length") (st := s_leg_length) (ps := ["chart", "start", "end"]) rfl rfl (fun _ _ F => F.binds fun _ _ _ _ _ _ us hl => match us, hl with | [_, _, _], _ => rfl)
  obtain ⟨D3, e3, d3⟩ := df_of c.t.d X G 3 3 (n := "open_legs") (st := s_open_legs) (ps := ["chart", "start", "level"]) rfl rfl (fun _ _ F => F.binds fun _ _ _ _ _ _ us hl => match us, hl with | [_, _, _], _ => rfl)
  obtain ⟨D4, e4, d4⟩ := df_of c.t.d X G 4 4 (n := "is_kind") (st := s_is_kind) (ps := ["kind"]) rfl rfl (fun _ _ F => F.binds fun _ _ _ _ _ _ us hl => match us, hl with | [_], _ => rfl)
  obtain ⟨D5, e5, d5⟩ := df_of c.t.d X G 5 5 (n := "route_length") (st := s_route_length) (ps := ["chart", "route"]) rfl rfl (fun _ _ F => F.binds fun _ _ _ _ _ _ us hl => match us, hl with | [_, _], _ => rfl)
  obtain ⟨D6, e6, d6⟩ := df_of c.t.d X G 6 6 (n := "alternatives") (st := s_alternatives) (ps := ["chart", "start", "goal", "level", "count"]) rfl rfl (fun _ _ F => F.binds fun _ _ _ _ _ _ us hl => match us, hl with | [_, _, _, _, _], _ => rfl)
  obtain ⟨D7, e7, d7⟩ := df_of c.t.d X G 7 7 (n := "with_loops") (st := s_with_loops) (ps := ["chart", "route", "loops"]) rfl rfl (fun _ _ F => F.binds fun _ _ _ _ _ _ us hl => match us, hl with | [_, _, _], _ => rfl)
  obtain ⟨D8, e8, d8⟩ := df_of c.t.d X G 8 8 (n := "check_requests") (st := s_check_requests) (ps := ["chart", "requests"]) rfl rfl (fun _ _ F => F.binds fun _ _ _ _ _ _ us hl => match us, hl with | [_, _], _ => rfl)
  obtain ⟨D9, e9, d9⟩ := df_of c.t.d X G 9 9 (n := "flaw_of") (st := s_flaw_of) (ps := ["chart", "request", "names"]) rfl rfl (fun _ _ F => F.binds fun _ _ _ _ _ _ us hl => match us, hl with | [_, _, _], _ => rfl)
  obtain ⟨D10, e10, d10⟩ := df_of c.t.d X G 10 10 (n := "possible_routes") (st := s_possible_routes) (ps := ["chart", "request"]) rfl rfl (fun _ _ F => F.binds fun _ _ _ _ _ _ us hl => match us, hl with | [_, _], _ => rfl)
  obtain ⟨D11, e11, d11⟩ := df_of c.t.d X G 11 11 (n := "different") (st := s_different) (ps := ["first", "second"]) rfl rfl (fun _ _ F => F.binds fun _ _ _ _ _ _ us hl => match us, hl with | [_, _], _ => rfl)
  obtain ⟨D12, e12, d12⟩ := df_of c.t.d X G 12 12 (n := "menu") (st := s_menu) (ps := ["chart", "request"]) rfl rfl (fun _ _ F => F.binds fun _ _ _ _ _ _ us hl => match us, hl with | [_, _], _ => rfl)
  obtain ⟨D13, e13, d13⟩ := df_of c.t.d X G 13 13 (n := "_law_start") (st := s_start) (ps := ["_law_script"]) rfl rfl (fun _ _ F => F.binds fun _ _ _ _ _ _ us hl => match us, hl with | [_], _ => rfl)
  obtain ⟨D14, e14, d14⟩ := df_of c.t.d X G 14 14 (n := "_law_draw") (st := s_draw) (ps := ["_law_state", "_law_bound"]) rfl rfl (fun _ _ F => F.binds fun _ _ _ _ _ _ us hl => match us, hl with | [_, _], _ => rfl)
  obtain ⟨D15, e15, d15⟩ := df_of c.t.d X G 15 15 (n := "_law_pick") (st := s_pick) (ps := ["_law_state", "_law_things"]) rfl rfl (fun _ _ F => F.binds fun _ _ _ _ _ _ us hl => match us, hl with | [_, _], _ => rfl)
  obtain ⟨D16, e16, d16⟩ := df_of c.t.d X G 16 16 (n := "_law_root_up") (st := s_law_root_up) (ps := ["_law_n"]) rfl rfl (fun _ _ F => F.binds fun _ _ _ _ _ _ us hl => match us, hl with | [_], _ => rfl)
  obtain ⟨D17, e17, d17⟩ := df_of c.t.d X G 17 17 (n := "_law_names") (st := s_names) (ps := ["_law_state", "_law_many"]) rfl rfl (fun _ _ F => F.binds fun _ _ _ _ _ _ us hl => match us, hl with | [_, _], _ => rfl)
  obtain ⟨D18, e18, d18⟩ := df_of c.t.d X G 18 18 (n := "_law_legs") (st := s_legs) (ps := ["_law_state", "_law_names_here"]) rfl rfl (fun _ _ F => F.binds fun _ _ _ _ _ _ us hl => match us, hl with | [_, _], _ => rfl)
  obtain ⟨D19, e19, d19⟩ := df_of c.t.d X G 19 19 (n := "_law_chart") (st := s_chart) (ps := ["_law_state", "_law_many", "_law_size"]) rfl rfl (fun _ _ F => F.binds fun _ _ _ _ _ _ us hl => match us, hl with | [_, _, _], _ => rfl)
  obtain ⟨D20, e20, d20⟩ := df_of c.t.d X G 20 20 (n := "_law_lengths") (st := s_lengths) (ps := ["_law_chart_here"]) rfl rfl (fun _ _ F => F.binds fun _ _ _ _ _ _ us hl => match us, hl with | [_], _ => rfl)
  obtain ⟨D21, e21, d21⟩ := df_of c.t.d X G 21 21 (n := "_law_route_length") (st := s_law_route_length) (ps := ["_law_lengths_here", "_law_route"]) rfl rfl (fun _ _ F => F.binds fun _ _ _ _ _ _ us hl => match us, hl with | [_, _], _ => rfl)
  obtain ⟨D22, e22, d22⟩ := df_of c.t.d X G 22 22 (n := "_law_kind") (st := s_kind) (ps := ["_law_state"]) rfl rfl (fun _ _ F => F.binds fun _ _ _ _ _ _ us hl => match us, hl with | [_], _ => rfl)
  obtain ⟨D23, e23, d23⟩ := df_of c.t.d X G 23 23 (n := "_law_small_chart") (st := s_small_chart) (ps := ["_law_state"]) rfl rfl (fun _ _ F => F.binds fun _ _ _ _ _ _ us hl => match us, hl with | [_], _ => rfl)
  obtain ⟨D24, e24, d24⟩ := df_of c.t.d X G 24 24 (n := "_law_request") (st := s_request) (ps := ["_law_state", "_law_chart_here", "_law_name"]) rfl rfl (fun _ _ F => F.binds fun _ _ _ _ _ _ us hl => match us, hl with | [_, _, _], _ => rfl)
  obtain ⟨D25, e25, d25⟩ := df_of c.t.d X G 25 25 (n := "_law_is_name") (st := s_law_is_name) (ps := ["_law_word"]) rfl rfl (fun _ _ F => F.binds fun _ _ _ _ _ _ us hl => match us, hl with | [_], _ => rfl)
  obtain ⟨D26, e26, d26⟩ := df_of c.t.d X G 26 26 (n := "_law_code") (st := s_code) (ps := ["_law_chart_here", "_law_request_here", "_law_before"]) rfl rfl (fun _ _ F => F.binds fun _ _ _ _ _ _ us hl => match us, hl with | [_, _, _], _ => rfl)
  obtain ⟨D27, e27, d27⟩ := df_of c.t.d X G 27 27 (n := "_law_flaw") (st := s_flaw) (ps := ["_law_chart_here", "_law_requests"]) rfl rfl (fun _ _ F => F.binds fun _ _ _ _ _ _ us hl => match us, hl with | [_, _], _ => rfl)
  obtain ⟨D28, e28, d28⟩ := df_of c.t.d X G 28 28 (n := "_law_checked") (st := s_checked) (ps := ["_law_chart_here", "_law_requests"]) rfl rfl (fun _ _ F => F.binds fun _ _ _ _ _ _ us hl => match us, hl with | [_, _], _ => rfl)
  obtain ⟨D29, e29, d29⟩ := df_of c.t.d X G 29 29 (n := "_law_spoil") (st := s_spoil) (ps := ["_law_state", "_law_chart_here", "_law_requests"]) rfl rfl (fun _ _ F => F.binds fun _ _ _ _ _ _ us hl => match us, hl with | [_, _, _], _ => rfl)
  obtain ⟨D30, e30, d30⟩ := df_of c.t.d X G 30 30 (n := "_law_routes") (st := s_routes) (ps := ["_law_chart_here", "_law_start_here", "_law_goal", "_law_level"]) rfl rfl (fun _ _ F => F.binds fun _ _ _ _ _ _ us hl => match us, hl with | [_, _, _, _], _ => rfl)
  obtain ⟨D31, e31, d31⟩ := df_of c.t.d X G 31 31 (n := "_law_menu") (st := s_law_menu) (ps := ["_law_chart_here", "_law_request_here"]) rfl rfl (fun _ _ F => F.binds fun _ _ _ _ _ _ us hl => match us, hl with | [_, _], _ => rfl)
  obtain ⟨D32, e32, d32⟩ := df_of c.t.d X G 32 32 (n := "law") (st := s_law) (ps := ["_law_script"]) rfl rfl (fun _ _ F => F.binds fun _ _ _ _ _ _ us hl => match us, hl with | [_], _ => rfl)
  obtain ⟨xd0⟩ := xd_of X G pM ⟨"RouteError", "RouteError.__init__", s_RouteError_init, ["code", "index"]⟩ (Option.some.inj (congrArg (fun l => l[0]?) ce)) (List.all_eq_true.mp (He.ba (He.ba (He.ba c.more).2).2).2 _ (List.mem_of_getElem? (i := 0) rfl)) (He.free_ok X G (c.t.d.fact 48 (f := .free "super") rfl)) rfl (fun kV dc pmV an cda ct cc => .all fun us hl => match us, hl with | [_, _, _], _ => rfl)
  obtain ⟨xd1⟩ := xd_of X G pM ⟨"RequestError", "RequestError.__init__", s_RequestError_init, ["code", "index"]⟩ (Option.some.inj (congrArg (fun l => l[1]?) ce)) (List.all_eq_true.mp (He.ba (He.ba (He.ba c.more).2).2).2 _ (List.mem_of_getElem? (i := 1) rfl)) (He.free_ok X G (c.t.d.fact 48 (f := .free "super") rfl)) rfl (fun kV dc pmV an cda ct cc => .all fun us hl => match us, hl with | [_, _, _], _ => rfl)
  let N : Nm K mg := ⟨D0, D1, D2, D3, D4, D5, D6, D7, D8, D9, D10, D11, D12, D13, D14, D15, D16, D17, D18, D19, D20, D21, D22, D23, D24, D25, D26, D27, D28, D29, D30, D31, D32, ⟨_, (He.cT K ("is_name", none)).2, e1⟩, ⟨_, (He.cT K ("route_length", none)).2, e5⟩, He.ga K "RouteError", xd0, He.ga K "RequestError", xd1, kc_ok X G (He.ba (He.ba c.more).2).1, kc_ok X G (He.ba (He.ba (He.ba c.more).2).2).1⟩
  have T : Bt mg := ⟨He.free_ok X G (c.t.d.fact 33 (f := .free "ValueError") rfl), He.free_ok X G (c.t.d.fact 34 (f := .free "all") rfl), He.free_ok X G (c.t.d.fact 35 (f := .free "sum") rfl), He.free_ok X G (c.t.d.fact 36 (f := .free "range") rfl), He.free_ok X G (c.t.d.fact 37 (f := .free "sorted") rfl), He.free_ok X G (c.t.d.fact 38 (f := .free "enumerate") rfl), He.free_ok X G (c.t.d.fact 39 (f := .free "len") rfl), He.free_ok X G (c.t.d.fact 40 (f := .free "tuple") rfl), He.free_ok X G (c.t.d.fact 41 (f := .free "min") rfl), He.free_ok X G (c.t.d.fact 42 (f := .free "max") rfl), He.free_ok X G (c.t.d.fact 43 (f := .free "list") rfl), He.free_ok X G (c.t.d.fact 44 (f := .free "int") rfl), He.free_ok X G (c.t.d.fact 45 (f := .free "isinstance") rfl), He.free_ok X G (c.t.d.fact 46 (f := .free "bool") rfl), He.free_ok X G (c.t.d.fact 47 (f := .free "abs") rfl), He.free_ok X G (c.t.d.fact 48 (f := .free "super") rfl), He.free_ok X G (c.t.d.fact 49 (f := .free "zip") rfl), He.free_ok X G (c.t.d.fact 50 (f := .free "any") rfl), He.free_ok X G (c.t.d.fact 51 (f := .free "str") rfl), He.int_ok X G (c.t.d.fact 52 (f := .int "HIGHEST" 600) rfl), He.int_ok X G (c.t.d.fact 53 (f := .int "LONGEST_NAME" 5) rfl), He.str_ok X G (c.t.d.fact 54 (f := .str "CAPITALS" "ABCDEFGHIJKLMNOPQRSTUVWXYZ") rfl), He.str_ok X G (c.t.d.fact 55 (f := .str "NAME_CHARACTERS" "ABCDEFGHIJKLMNOPQRSTUVWXYZ0123456789") rfl), He.int_ok X G (c.t.d.fact 56 (f := .int "CLASSES" 4) rfl), He.int_ok X G (c.t.d.fact 57 (f := .int "FASTEST" 10000) rfl), He.int_ok X G (c.t.d.fact 58 (f := .int "STEEPEST" 100) rfl), He.int_ok X G (c.t.d.fact 59 (f := .int "MOST_NAMES" 16) rfl), He.int_ok X G (c.t.d.fact 60 (f := .int "MOST_SIMPLE" 8) rfl), He.int_ok X G (c.t.d.fact 61 (f := .int "LAST_TICK" 90000) rfl), He.int_ok X G (c.t.d.fact 62 (f := .int "LATEST" 10000) rfl), trivial, He.int_ok X G (c.t.d.fact 63 (f := .int "ROUTES" 2) rfl), trivial, bi_33 X G (He.ba c.more).1⟩
  have ef : f = D32.f := by
    have z := hfa.symm.trans D32.m
    injection z with z
    injection z
  subst ef
  have b := FunD.bindsA (ps := ["_law_script"]) d32 fun _ _ _ _ _ _ us hl => match us, hl with | [_], _ => rfl
  refine ⟨K, D32.fd, ([("is_name", none), ("route_length", none)] : List (Str × Option Str)).map (He.cT K), X, fun p hp => by
    obtain ⟨z, hz, e⟩ := List.mem_map.mp hp
    rw [← e]
    exact c.empty z hz, fun p hp => by
    obtain ⟨z, hz, e⟩ := List.mem_map.mp hp
    rw [← e]
    exact c.out z hz, fun p hp => by
    obtain ⟨z, hz, e⟩ := List.mem_map.mp hp
    rw [← e]
    exact c.hd z hz, fun s v => b s [v] rfl, fun base _ _ tb => ok_law N T hP ⟨tb (He.cT K ("is_name", none)) (List.mem_map.mpr ⟨_, by simp, rfl⟩), tb (He.cT K ("route_length", none)) (List.mem_map.mpr ⟨_, by simp, rfl⟩)⟩⟩
end Law
open PySem PySem.W PyProof.Rows
set_option maxRecDepth 100000 in
set_option maxHeartbeats 0 in
theorem PySem.Challenge.cw_skyapart_k22_requests_and_menus_holds : PySem.Challenge.rw_skyapart_k22_requests_and_menus.Holds := by
  w_on; o_law
  o_head (Sk.hookY 7 Law.faL Law.fnL [] [("is_name", none), ("route_length", none)] Law.exB Law.xcL); (case hw => w_witness2)
  refine Sk.walk_tabsE (l := PySem.Challenge.rw_skyapart_k22_requests_and_menus) (k := 8) (x := "_law_script") rfl rfl ⟨rfl, by decide, by decide⟩ ?F
  case F =>
    intro w mg fa h Y G hmg
    obtain ⟨K, KX, c, ce⟩ := Y
    exact Law.facts rfl KX G hmg c ce


