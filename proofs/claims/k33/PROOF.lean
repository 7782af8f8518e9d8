import PyProof.Rows.All
import Wide.All
import OpenK.AllK
import Wide.FinOn
import PyProof.EqAt
import PyProof.EqKinds
import PyProof.TupleCall
import HandS.ForMost
import HandS.ForExc
import HandS.Wide
import HandS.IsInst
import HandS.RevRange
import HandS.Conv
import HandS.AnyAll
import HandS.Evl
import HandS.Gcd
import HandS.Star
import HandS.More
import PySem.Challenge.RW_skyapart_k33_whole_stream_of_radars
set_option Elab.async false
set_option linter.all false
set_option maxRecDepth 100000
set_option maxHeartbeats 4100000
/-! Sk1: typed data over the hand layer: what a value stands for, worlds, the weakest readings. -/
namespace Sk
open PySem L2 Evl

abbrev Fg := PySem.W.Frag
theorem _root_.Evl.Ex.upd2 {H H' : Hp} {p : Addr} {o : HO} (e : Ex H H') : Ex (upd H p o) (upd H' p o) := fun a u h => by
  by_cases q : a = p
  · subst q
    rw [upd_same] at h ⊢
    exact h
  · rw [upd_ne q] at h ⊢
    exact e a u h

/-! ### what a value stands for -/
structure Rp (α : Type) where
  rep : Fg → Hp → V → α → Prop
  mono : ∀ {K : Fg} {G G' : Hp} {v : V} {x : α}, Ex G G' → rep K G v x → rep K G' v x
/-- of several values -/
structure RpF (α : Type) where
  rep : Fg → Hp → List V → α → Prop
  mono : ∀ {K : Fg} {G G' : Hp} {vs : List V} {x : α}, Ex G G' → rep K G vs x → rep K G' vs x
def rInt : Rp Int := ⟨fun _ _ v x => v = .int x, fun _ h => h⟩
def rBool : Rp Bool := ⟨fun _ _ v x => v = .bl x, fun _ h => h⟩
def rStr : Rp Str := ⟨fun _ _ v x => v = .str x, fun _ h => h⟩
def rNon : Rp Unit := ⟨fun _ _ v _ => v = .non, fun _ h => h⟩
def rAdr : Rp Addr := ⟨fun _ _ v x => v = .ref x, fun _ h => h⟩
def rAny : Rp Unit := ⟨fun _ _ _ _ => True, fun _ h => h⟩
def rTy : Rp String := ⟨fun _ _ v x => v = .ty x, fun _ h => h⟩
/-- a thing or None -/
def rOpt {α : Type} (r : Rp α) : Rp (Option α) := ⟨fun K G v x => match x with
  | none => v = .non
  | some y => v ≠ .non ∧ r.rep K G v y, fun {K G G' v x} e h => by
    cases x with
    | none => exact h
    | some y => exact ⟨h.1, r.mono e h.2⟩⟩
/-- items, one by one -/
def All2 {α : Type} (p : V → α → Prop) : List V → List α → Prop
  | [], [] => True
  | v :: vs, x :: xs => p v x ∧ All2 p vs xs
  | _, _ => False
theorem All2.mono {α : Type} {p q : V → α → Prop} (h : ∀ v x, p v x → q v x) : ∀ {vs : List V} {xs : List α}, All2 p vs xs → All2 q vs xs
  | [], [], _ => trivial
  | _ :: _, _ :: _, ⟨a, b⟩ => ⟨h _ _ a, All2.mono h b⟩
  | [], _ :: _, z => z
  | _ :: _, [], z => z
theorem All2.length {α : Type} {p : V → α → Prop} : ∀ {vs : List V} {xs : List α}, All2 p vs xs → vs.length = xs.length
  | [], [], _ => rfl
  | _ :: vs, _ :: xs, ⟨_, b⟩ => by rw [List.length_cons, List.length_cons, All2.length b]
  | [], _ :: _, z => z.elim
  | _ :: _, [], z => z.elim
theorem All2.get {α : Type} {p : V → α → Prop} : ∀ {vs : List V} {xs : List α} {i : Nat} {v : V}, All2 p vs xs → vs[i]? = some v → ∃ x, xs[i]? = some x ∧ p v x
  | [], _, _, _, _, e => by simp at e
  | _ :: _, [], _, _, z, _ => z.elim
  | w :: vs, x :: xs, 0, v, ⟨a, _⟩, e => by
    have e' : w = v := by simpa using e
    subst e'
    exact ⟨x, rfl, a⟩
  | w :: vs, x :: xs, i + 1, v, ⟨_, b⟩, e => All2.get (i := i) b (by simpa using e)
theorem All2.get' {α : Type} {p : V → α → Prop} : ∀ {vs : List V} {xs : List α} {i : Nat} {x : α}, All2 p vs xs → xs[i]? = some x → ∃ v, vs[i]? = some v ∧ p v x
  | _, [], _, _, _, e => by rw [List.getElem?_nil] at e; cases e
  | [], _ :: _, _, _, z, _ => z.elim
  | w :: vs, x :: xs, 0, y, ⟨a, _⟩, e => by
    have ey : x = y := by simpa using e
    subst ey
    exact ⟨w, rfl, a⟩
  | w :: vs, x :: xs, i + 1, y, ⟨_, b⟩, e => All2.get' (i := i) b (by simpa using e)
theorem All2.append {α : Type} {p : V → α → Prop} : ∀ {vs : List V} {xs : List α} {vs' : List V} {xs' : List α}, All2 p vs xs → All2 p vs' xs' → All2 p (vs ++ vs') (xs ++ xs')
  | [], [], _, _, _, h => h
  | _ :: _, _ :: _, _, _, ⟨a, b⟩, h => ⟨a, All2.append b h⟩
  | [], _ :: _, _, _, z, _ => z.elim
  | _ :: _, [], _, _, z, _ => z.elim
theorem All2.take {α : Type} {p : V → α → Prop} : ∀ {vs : List V} {xs : List α} (n : Nat), All2 p vs xs → All2 p (vs.take n) (xs.take n)
  | _, _, 0, _ => by simp [All2]
  | [], [], _ + 1, _ => trivial
  | _ :: _, _ :: _, n + 1, ⟨a, b⟩ => ⟨a, All2.take n b⟩
  | [], _ :: _, _ + 1, z => z.elim
  | _ :: _, [], _ + 1, z => z.elim
theorem All2.drop {α : Type} {p : V → α → Prop} : ∀ {vs : List V} {xs : List α} (n : Nat), All2 p vs xs → All2 p (vs.drop n) (xs.drop n)
  | _, _, 0, h => h
  | [], [], _ + 1, _ => trivial
  | _ :: _, _ :: _, n + 1, ⟨_, b⟩ => All2.drop n b
  | [], _ :: _, _ + 1, z => z.elim
  | _ :: _, [], _ + 1, z => z.elim
theorem All2.set {α : Type} {p : V → α → Prop} {v : V} {x : α} (hp : p v x) : ∀ {vs : List V} {xs : List α} (i : Nat), All2 p vs xs → All2 p (vs.set i v) (xs.set i x)
  | [], [], _, _ => trivial
  | _ :: _, _ :: _, 0, ⟨_, b⟩ => ⟨hp, b⟩
  | _ :: _, _ :: _, i + 1, ⟨a, b⟩ => ⟨a, All2.set hp i b⟩
  | [], _ :: _, _, z => z.elim
  | _ :: _, [], _, z => z.elim
theorem All2.map_int : ∀ {vs : List V} {xs : List Int}, All2 (fun v x => v = .int x) vs xs → vs = xs.map V.int
  | [], [], _ => rfl
  | _ :: _, _ :: _, ⟨a, b⟩ => by
    rw [a, All2.map_int b]
    rfl
  | [], _ :: _, z => z.elim
  | _ :: _, [], z => z.elim
theorem All2.of_int : ∀ (xs : List Int), All2 (fun v x => v = .int x) (xs.map V.int) xs
  | [] => trivial
  | _ :: xs => ⟨rfl, All2.of_int xs⟩
/-- a list of like things; a tuple of like things -/
def rLst {α : Type} (r : Rp α) : Rp (List α) := ⟨fun K G v xs => ∃ a vs, v = .ref a ∧ G a = some (.lst vs) ∧ All2 (r.rep K G) vs xs,
  fun e ⟨a, vs, h1, h2, h3⟩ => ⟨a, vs, h1, e _ _ h2, h3.mono fun _ _ z => r.mono e z⟩⟩
/-- a list that is read alone (the script, a module's) -/
def rSeq {α : Type} (r : Rp α) : Rp (List α) := ⟨fun K G v xs => ∃ a vs, v = .ref a ∧ SqL K G a vs ∧ All2 (r.rep K G) vs xs,
  fun e ⟨a, vs, h1, h2, h3⟩ => ⟨a, vs, h1, ex_l e h2, h3.mono fun _ _ z => r.mono e z⟩⟩
def rTpv {α : Type} (r : Rp α) : Rp (List α) := ⟨fun K G v xs => ∃ a vs, v = .ref a ∧ SqT K G a vs ∧ All2 (r.rep K G) vs xs,
  fun e ⟨a, vs, h1, h2, h3⟩ => ⟨a, vs, h1, ex_t e h2, h3.mono fun _ _ z => r.mono e z⟩⟩
def fNil : RpF Unit := ⟨fun _ _ vs _ => vs = [], fun _ h => h⟩
def fOne {α : Type} (r : Rp α) : RpF α := ⟨fun K G vs x => ∃ v, vs = [v] ∧ r.rep K G v x, fun e ⟨v, h1, h2⟩ => ⟨v, h1, r.mono e h2⟩⟩
def fCons {α β : Type} (r : Rp α) (f : RpF β) : RpF (α × β) := ⟨fun K G vs x => ∃ v ws, vs = v :: ws ∧ r.rep K G v x.1 ∧ f.rep K G ws x.2, fun e ⟨v, ws, h1, h2, h3⟩ => ⟨v, ws, h1, r.mono e h2, f.mono e h3⟩⟩
/-- a tuple of unlike things -/
def rTup {α : Type} (f : RpF α) : Rp α := ⟨fun K G v x => ∃ a vs, v = .ref a ∧ SqT K G a vs ∧ f.rep K G vs x, fun e ⟨a, vs, h1, h2, h3⟩ => ⟨a, vs, h1, ex_t e h2, f.mono e h3⟩⟩

/-! ### the frame's slots -/
structure Slot where
  {α : Type}
  r : Rp α
  x : α
abbrev Gm := List (Option Slot)
def EnvR (K : Fg) (G : Hp) : St → Gm → Prop
  | [], [] => True
  | _ :: σ, none :: Γ => EnvR K G σ Γ
  | v :: σ, some s :: Γ => (∃ u, v = some u ∧ s.r.rep K G u s.x) ∧ EnvR K G σ Γ
  | _, _ => False
theorem EnvR.mono {K : Fg} {G G' : Hp} (e : Ex G G') : ∀ {σ : St} {Γ : Gm}, EnvR K G σ Γ → EnvR K G' σ Γ
  | [], [], _ => trivial
  | _ :: σ, none :: Γ, h => EnvR.mono e (σ := σ) (Γ := Γ) h
  | _ :: _, some s :: _, ⟨⟨u, h1, h2⟩, h⟩ => ⟨⟨u, h1, s.r.mono e h2⟩, EnvR.mono e h⟩
  | [], _ :: _, h => h.elim
  | _ :: _, [], h => h.elim
theorem EnvR.get {K : Fg} {G : Hp} : ∀ {σ : St} {Γ : Gm} {i : Nat} {s : Slot}, EnvR K G σ Γ → Γ[i]? = some (some s) → ∃ u, σ[i]? = some (some u) ∧ s.r.rep K G u s.x
  | [], [], _, _, _, e => by simp at e
  | v :: σ, none :: Γ, 0, s, _, e => by simp at e
  | v :: σ, some s' :: Γ, 0, s, ⟨⟨u, h1, h2⟩, _⟩, e => by
    have e' : s' = s := by simpa using e
    subst e'
    exact ⟨u, by rw [h1]; rfl, h2⟩
  | v :: σ, none :: Γ, i + 1, s, h, e => EnvR.get (i := i) (show EnvR K G σ Γ from h) (by simpa using e)
  | v :: σ, some s' :: Γ, i + 1, s, ⟨_, h⟩, e => EnvR.get (i := i) h (by simpa using e)
  | [], _ :: _, _, _, h, _ => h.elim
  | _ :: _, [], _, _, h, _ => h.elim
theorem EnvR.set {K : Fg} {G : Hp} {s : Slot} {u : V} (hu : s.r.rep K G u s.x) : ∀ {σ : St} {Γ : Gm} (i : Nat), EnvR K G σ Γ → EnvR K G (σ.set i (some u)) (Γ.set i (some s))
  | [], [], _, _ => trivial
  | v :: σ, none :: Γ, 0, h => ⟨⟨u, rfl, hu⟩, h⟩
  | v :: σ, some s' :: Γ, 0, ⟨_, h⟩ => ⟨⟨u, rfl, hu⟩, h⟩
  | v :: σ, none :: Γ, i + 1, h => EnvR.set hu i (σ := σ) (Γ := Γ) h
  | v :: σ, some s' :: Γ, i + 1, ⟨a, h⟩ => ⟨a, EnvR.set hu i h⟩
  | [], _ :: _, _, h => h.elim
  | _ :: _, [], _, h => h.elim
/-- forgetting -/
def Wk : Gm → Gm → Prop
  | [], [] => True
  | _ :: Γ, none :: Γ' => Wk Γ Γ'
  | some s :: Γ, some s' :: Γ' => s = s' ∧ Wk Γ Γ'
  | _, _ => False
theorem Wk.env {K : Fg} {G : Hp} : ∀ {σ : St} {Γ Γ' : Gm}, Wk Γ Γ' → EnvR K G σ Γ → EnvR K G σ Γ'
  | [], [], [], _, _ => trivial
  | v :: σ, g :: Γ, none :: Γ', h, q => by
    cases g with
    | none => exact Wk.env (σ := σ) (Γ := Γ) (Γ' := Γ') h q
    | some s => exact Wk.env (σ := σ) (Γ := Γ) (Γ' := Γ') h q.2
  | v :: σ, some s :: Γ, some s' :: Γ', ⟨e, h⟩, q => by
    subst e
    exact ⟨q.1, Wk.env h q.2⟩
  | v :: σ, none :: Γ, some s' :: Γ', h, _ => h.elim
  | [], _ :: _, _, _, q => q.elim
  | _ :: _, [], _, _, q => q.elim
  | _, [], _ :: _, h, _ => h.elim
  | _, _ :: _, [], h, _ => h.elim
/-- the slots at js are forgotten -/
def wipeG (Γ : Gm) : List Nat → Gm
  | [] => Γ
  | j :: js => wipeG (Γ.set j none) js

/-! ### objects that are one's own: they may change -/
structure Ow (α : Type) where
  rep : Fg → Hp → HO → α → Prop
  mono : ∀ {K : Fg} {G G' : Hp} {o : HO} {x : α}, Ex G G' → rep K G o x → rep K G' o x
structure Own where
  a : Addr
  {α : Type}
  r : Ow α
  x : α
def oLst {α : Type} (r : Rp α) : Ow (List α) := ⟨fun K G o xs => ∃ vs, o = .lst vs ∧ All2 (r.rep K G) vs xs, fun e ⟨vs, h1, h2⟩ => ⟨vs, h1, h2.mono fun _ _ z => r.mono e z⟩⟩

/-! ### worlds -/
def Tb (H : Hp) (P : Addr) : Prop := ∃ ps : Array Value, H P = some (.tbl ps) ∧ TriplesOk ps.toList
/-- from a world (G H) to a world (G' H'): what G tells stays, what H tells stays but for the tables T and the objects M -/
structure Stp (T M : List Addr) (G H G' H' : Hp) : Prop where
  sub : Ex G' H'
  g : Ex G G'
  h : ∀ a o, H a = some o → a ∉ T → a ∉ M → H' a = some o
  th : ∀ a, H a ≠ none → H' a ≠ none
  fr : ∀ a, G a = none → G' a ≠ none → H a = none
  tab : ∀ P ∈ T, Tb H P → Tb H' P
theorem Stp.refl {T M : List Addr} {G H : Hp} (s : Ex G H) : Stp T M G H G H :=
  ⟨s, Ex.refl _, fun _ _ h _ _ => h, fun _ h => h, fun _ h h' => (h' h).elim, fun _ _ h => h⟩
theorem Stp.trans {T M M' : List Addr} {G0 H0 G1 H1 G2 H2 : Hp} (a : Stp T M G0 H0 G1 H1) (b : Stp T M' G1 H1 G2 H2) (m : ∀ c ∈ M', c ∈ M ∨ H0 c = none) : Stp T M G0 H0 G2 H2 where
  sub := b.sub
  g := a.g.trans b.g
  h := fun c o q t n => b.h c o (a.h c o q t n) t fun z => by
    rcases m c z with y | y
    · exact n y
    · rw [y] at q
      cases q
  th := fun c q => b.th c (a.th c q)
  fr := fun c q q2 => by
    by_cases q1 : G1 c = none
    · have z := b.fr c q1 q2
      cases e : H0 c with
      | none => rfl
      | some o => exact (a.th c (by rw [e]; simp) z).elim
    · exact a.fr c q q1
  tab := fun P hP q => b.tab P hP (a.tab P hP q)
theorem Stp.weak {T M M' : List Addr} {G H G' H' : Hp} (a : Stp T M G H G' H') (m : ∀ c ∈ M, c ∈ M') : Stp T M' G H G' H' :=
  ⟨a.sub, a.g, fun c o q t n => a.h c o q t fun z => n (m c z), a.th, a.fr, a.tab⟩
/-- a new thing that will not change -/
theorem Stp.new {T M : List Addr} {G H : Hp} {p : Addr} {o : HO} (s : Ex G H) (hp : H p = none) : Stp T M G H (upd G p o) (upd H p o) where
  sub := s.upd2
  g := Ex.new (by cases e : G p with
    | none => rfl
    | some q => rw [s p q e] at hp; cases hp)
  h := fun a u e _ _ => by rw [upd_ne (ne_of_none e hp)]; exact e
  th := fun a e => by
    by_cases q : a = p
    · rw [q, upd_same]; simp
    · rw [upd_ne q]; exact e
  fr := fun a e e2 => by
    by_cases q : a = p
    · rw [q]; exact hp
    · rw [upd_ne q] at e2; exact (e2 e).elim
  tab := fun P _ ⟨ps, h1, h2⟩ => ⟨ps, by rw [upd_ne (ne_of_none h1 hp)]; exact h1, h2⟩
/-- a new object of one's own -/
theorem Stp.newOwn {T M : List Addr} {G H : Hp} {p : Addr} {o : HO} (s : Ex G H) (hp : H p = none) : Stp T M G H G (upd H p o) where
  sub := s.trans (Ex.new hp)
  g := Ex.refl _
  h := fun a u e _ _ => by rw [upd_ne (ne_of_none e hp)]; exact e
  th := fun a e => by
    by_cases q : a = p
    · rw [q, upd_same]; simp
    · rw [upd_ne q]; exact e
  fr := fun a e e2 => (e2 e).elim
  tab := fun P _ ⟨ps, h1, h2⟩ => ⟨ps, by rw [upd_ne (ne_of_none h1 hp)]; exact h1, h2⟩
/-- an own object changes -/
theorem Stp.mut {T : List Addr} {G H : Hp} {p : Addr} {o : HO} (s : Ex G H) (hp : G p = none) (ht : p ∉ T) : Stp T [p] G H G (upd H p o) where
  sub := s.mut hp
  g := Ex.refl _
  h := fun a u e _ n => by rw [upd_ne (by intro z; exact n (by simp [z]))]; exact e
  th := fun a e => by
    by_cases q : a = p
    · rw [q, upd_same]; simp
    · rw [upd_ne q]; exact e
  fr := fun a e e2 => (e2 e).elim
  tab := fun P hP ⟨ps, h1, h2⟩ => ⟨ps, by rw [upd_ne (by intro z; exact ht (z ▸ hP))]; exact h1, h2⟩

/-- where a def began: its tables, the objects it was handed to change, the world at its entry; heaps that stay told -/
structure Bs where
  T : List Addr
  M : List Addr
  G0 : Hp
  H0 : Hp
  bs : List Hp
structure OwnOk (K : Fg) (B : Bs) (G H : Hp) (w : Own) : Prop where
  ob : ∃ o, H w.a = some o ∧ w.r.rep K G o w.x
  g : G w.a = none
  t : w.a ∉ B.T
  m : B.H0 w.a = none ∨ w.a ∈ B.M
structure Ws (K : Fg) (B : Bs) (Γ : Gm) (O : List Own) (σ : St) (G H : Hp) : Prop where
  st : Stp B.T B.M B.G0 B.H0 G H
  tab : ∀ P ∈ B.T, Tb H P ∧ G P = none
  bs : ∀ g ∈ B.bs, Ex g G
  env : EnvR K G σ Γ
  own : ∀ w ∈ O, OwnOk K B G H w
  nd : (O.map (·.a)).Nodup
  mh : ∀ m ∈ B.M, B.H0 m ≠ none
section
variable {K : Fg} {B : Bs} {Γ Γ' : Gm} {O O' : List Own} {σ : St} {G H G' H' : Hp}
theorem Ws.sub (W : Ws K B Γ O σ G H) : Ex G H := W.st.sub
/-- all that changes is new -/
theorem Ws.step (W : Ws K B Γ O σ G H) (s : Stp B.T [] G H G' H') : Ws K B Γ O σ G' H' where
  st := W.st.trans s fun _ z => absurd z (by simp)
  tab := fun P hP => ⟨s.tab P hP (W.tab P hP).1, by
    cases e : G' P with
    | none => rfl
    | some o =>
      have z := s.fr P (W.tab P hP).2 (by rw [e]; simp)
      obtain ⟨⟨ps, h1, _⟩, _⟩ := W.tab P hP
      rw [h1] at z
      cases z⟩
  bs := fun g hg => (W.bs g hg).trans s.g
  env := W.env.mono s.g
  own := fun w hw => by
    obtain ⟨⟨o, h1, h2⟩, h3, h4, h5⟩ := W.own w hw
    refine ⟨⟨o, s.h _ _ h1 h4 (by simp), w.r.mono s.g h2⟩, ?_, h4, h5⟩
    cases e : G' w.a with
    | none => rfl
    | some u =>
      have z := s.fr _ h3 (by rw [e]; simp)
      rw [h1] at z
      cases z
  nd := W.nd
  mh := W.mh
theorem Ws.wk (W : Ws K B Γ O σ G H) (h : Wk Γ Γ') : Ws K B Γ' O σ G H := ⟨W.st, W.tab, W.bs, h.env W.env, W.own, W.nd, W.mh⟩
theorem Ws.set {s : Slot} {u : V} (W : Ws K B Γ O σ G H) (i : Nat) (h : s.r.rep K G u s.x) : Ws K B (Γ.set i (some s)) O (σ.set i (some u)) G H :=
  ⟨W.st, W.tab, W.bs, W.env.set h i, W.own, W.nd, W.mh⟩
/-- one more heap that stays told -/
theorem Ws.base (W : Ws K B Γ O σ G H) : Ws K { B with bs := G :: B.bs } Γ O σ G H := ⟨W.st, W.tab, fun g hg => by
  rcases List.mem_cons.mp hg with z | z
  · rw [z]; exact Ex.refl _
  · exact W.bs g z, W.env, fun w hw => let ⟨a, b, c, d⟩ := W.own w hw; ⟨a, b, c, d⟩, W.nd, W.mh⟩
theorem Ws.unbase {g : Hp} (W : Ws K { B with bs := g :: B.bs } Γ O σ G H) : Ws K B Γ O σ G H := ⟨W.st, W.tab, fun g' hg => W.bs g' (List.mem_cons_of_mem _ hg), W.env, fun w hw => let ⟨a, b, c, d⟩ := W.own w hw; ⟨a, b, c, d⟩, W.nd, W.mh⟩
theorem Ws.free (W : Ws K B Γ O σ G H) {p : Addr} (hp : H p = none) : B.H0 p = none := by
  cases e : B.H0 p with
  | none => rfl
  | some o => exact (W.st.th p (by rw [e]; simp) hp).elim
theorem Ws.notM (W : Ws K B Γ O σ G H) {p : Addr} (hp : H p = none) : p ∉ B.M := fun z => W.mh p z (W.free hp)
theorem Ws.freeG (W : Ws K B Γ O σ G H) {p : Addr} (hp : H p = none) : G p = none := by
  cases e : G p with
  | none => rfl
  | some o => rw [W.sub p o e] at hp; cases hp
theorem Ws.notT (W : Ws K B Γ O σ G H) {p : Addr} (hp : H p = none) : p ∉ B.T := fun z => by
  obtain ⟨⟨ps, h1, _⟩, _⟩ := W.tab p z
  rw [h1] at hp
  cases hp
/-- a new own object -/
theorem Ws.newOwn {α : Type} {p : Addr} {o : HO} {r : Ow α} {x : α} (W : Ws K B Γ O σ G H) (hp : H p = none) (h : r.rep K G o x) : Ws K B Γ (⟨p, r, x⟩ :: O) σ G (upd H p o) := by
  have s : Stp B.T [] G H G (upd H p o) := Stp.newOwn W.sub hp
  have W' := W.step s
  refine ⟨W'.st, W'.tab, W'.bs, W'.env, fun w hw => ?_, ?_, W.mh⟩
  · rcases List.mem_cons.mp hw with z | z
    · subst z
      exact ⟨⟨o, upd_same, h⟩, W.freeG hp, W.notT hp, .inl (W.free hp)⟩
    · exact W'.own w z
  · show (p :: O.map (·.a)).Nodup
    refine List.nodup_cons.mpr ⟨fun z => ?_, W.nd⟩
    obtain ⟨w, hw, e⟩ := List.mem_map.mp z
    obtain ⟨⟨u, h1, _⟩, _⟩ := W.own w hw
    rw [e, hp] at h1
    cases h1
/-- an own object at the head changes -/
theorem Ws.mutHd {α β : Type} {p : Addr} {o : HO} {r : Ow α} {x : α} {r' : Ow β} {x' : β} (W : Ws K B Γ (⟨p, r, x⟩ :: O) σ G H) (h : r'.rep K G o x') : Ws K B Γ (⟨p, r', x'⟩ :: O) σ G (upd H p o) := by
  obtain ⟨_, h3, h4, h5⟩ := W.own _ List.mem_cons_self
  have s : Stp B.T [p] G H G (upd H p o) := Stp.mut W.sub h3 h4
  refine ⟨W.st.trans s fun c hc => ?_, fun P hP => ⟨s.tab P hP (W.tab P hP).1, (W.tab P hP).2⟩, W.bs, W.env, fun w hw => ?_, W.nd, W.mh⟩
  · have e : c = p := by simpa using hc
    subst e
    exact h5.symm
  · have nd : p ∉ O.map (·.a) := (List.nodup_cons.mp W.nd).1
    rcases List.mem_cons.mp hw with z | z
    · subst z
      exact ⟨⟨o, upd_same, h⟩, h3, h4, h5⟩
    · obtain ⟨⟨u, g1, g2⟩, g3, g4, g5⟩ := W.own w (List.mem_cons_of_mem _ z)
      exact ⟨⟨u, by rw [upd_ne (fun e => nd (List.mem_map.mpr ⟨w, z, e⟩))]; exact g1, g2⟩, g3, g4, g5⟩
/-- the own objects in another order, some dropped -/
theorem Ws.perm (W : Ws K B Γ O σ G H) (hs : ∀ w ∈ O', w ∈ O) (hn : (O.map (·.a)).Nodup → (O'.map (·.a)).Nodup) : Ws K B Γ O' σ G H := ⟨W.st, W.tab, W.bs, W.env, fun w hw => W.own w (hs w hw), hn W.nd, W.mh⟩
end
end Sk


set_option Elab.async false
set_option linter.all false
set_option maxRecDepth 100000
set_option maxHeartbeats 4100000
/-! Sk2: the weakest readings of the hand layer's judgements, and rules over typed data. -/
namespace Sk
open PySem L2 Evl

/-! ### the weakest readings -/
section
variable {ι : Type} (F : ι → Cx)
def WE (e : Expr) : TE := fun σ H Q => ∃ t, (∀ i, PE (F i) e t) ∧ t σ H Q
def WT (e : Expr) : TT := fun σ H Q => ∃ t, (∀ i, PT (F i) e t) ∧ t σ H Q
def WP (e : Expr) : TT := fun σ H Q => ∃ t, (∀ i, PW (F i) e t) ∧ t σ H Q
def WTs (es : List Expr) : TT := fun σ H Q => ∃ t, (∀ i, PTs (F i) es t) ∧ t σ H Q
def WA (es : List Expr) : TA := fun σ H Q => ∃ t, (∀ i, PA (F i) es t) ∧ t σ H Q
def WG (e : Expr) : TG := fun v σ H Q => ∃ t, (∀ i, PG (F i) e t) ∧ t v σ H Q
def WGs (es : List Expr) : TGs := fun vs σ H Q => ∃ t, (∀ i, PGs (F i) es t) ∧ t vs σ H Q
def WI (tg e : Expr) : TI := fun σ H R => ∃ t, (∀ i, PI (F i) tg e t) ∧ t σ H R
def wOp (f : Value → Value → Sem Value) : R2 := fun x y H Q => ∃ r, (∀ i, OpR (F i) f r) ∧ r x y H Q
def wUn (f : Value → Sem Value) : V → Hp → VK → Prop := fun x H Q => ∃ r, (∀ i, UnR (F i) f r) ∧ r x H Q
def wIx : R2 := fun x y H Q => ∃ r, (∀ i, IxR (F i) r) ∧ r x y H Q
def wCl (f : Value) : List V → Hp → VK → Prop := fun vs H Q => ∃ r, (∀ i, CallR (F i) f r) ∧ r vs H Q
variable {F}
theorem WE.pe {e : Expr} (i : ι) : PE (F i) e (WE F e) := ⟨fun pins s σ H Q I ⟨_, p, q⟩ => (p i).run pins s σ H Q I q⟩
theorem WT.pt {e : Expr} (i : ι) : PT (F i) e (WT F e) := ⟨fun pins s σ H Q I ⟨_, p, q⟩ => (p i).run pins s σ H Q I q⟩
theorem WP.pw {e : Expr} (i : ι) : PW (F i) e (WP F e) := ⟨fun wh pins s σ H Q I ⟨_, p, q⟩ => (p i).run wh pins s σ H Q I q⟩
theorem WTs.pts {e : List Expr} (i : ι) : PTs (F i) e (WTs F e) := ⟨fun pins s σ H Q I ⟨_, p, q⟩ => (p i).run pins s σ H Q I q⟩
theorem WA.pa {es : List Expr} (i : ι) : PA (F i) es (WA F es) := ⟨fun pos pins s σ H Q I ⟨_, p, q⟩ => (p i).run pos pins s σ H Q I q⟩
theorem WG.pg {e : Expr} (i : ι) : PG (F i) e (WG F e) := ⟨fun pins s σ H v u Q I r ⟨_, p, q⟩ => (p i).run pins s σ H v u Q I r q⟩
theorem WGs.pgs {es : List Expr} (i : ι) : PGs (F i) es (WGs F es) := ⟨fun pins s σ H v u Q I r ⟨_, p, q⟩ => (p i).run pins s σ H v u Q I r q⟩
theorem WI.pi {tg e : Expr} (i : ι) : PI (F i) tg e (WI F tg e) := ⟨fun pins s σ H R I ⟨_, p, q⟩ => (p i).run pins s σ H R I q⟩
theorem wOp.op {f : Value → Value → Sem Value} (i : ι) : OpR (F i) f (wOp F f) := fun pins s σ H x y v u Q I rx ry ⟨_, p, q⟩ => p i pins s σ H x y v u Q I rx ry q
theorem wUn.un {f : Value → Sem Value} (i : ι) : UnR (F i) f (wUn F f) := fun pins s σ H x v Q I rx ⟨_, p, q⟩ => p i pins s σ H x v Q I rx q
theorem wIx.ix (i : ι) : IxR (F i) (wIx F) := fun val sl pins s σ H x y v u Q I rx ry ⟨_, p, q⟩ hs => p i val sl pins s σ H x y v u Q I rx ry q hs
theorem wCl.cl {f : Value} (i : ι) : CallR (F i) f (wCl F f) := fun pins s σ H xs us Q I r ⟨_, p, q⟩ => p i pins s σ H xs us Q I r q
end
section
variable (X : Cx)
def WS (st : Stmt) : TS := fun D σ H => ∃ t, PS X st t ∧ t D σ H
def WSs (st : List Stmt) : TS := fun D σ H => ∃ t, PSs X st t ∧ t D σ H
variable {X}
theorem WS.ps {st : Stmt} : PS X st (WS X st) := ⟨fun pins s σ H D I ⟨_, p, q⟩ => p.run pins s σ H D I q⟩
theorem WSs.pss {st : List Stmt} : PSs X st (WSs X st) := ⟨fun pins s σ H D I ⟨_, p, q⟩ => p.run pins s σ H D I q⟩
theorem WSs.cons {st : Stmt} {rest : List Stmt} {D : Ends} {σ : St} {H : Hp} {t : TS} (p : PS X st t) (h : t { D with nx := WSs X rest D } σ H) : WSs X (st :: rest) D σ H := ⟨_, pss_cons p WSs.pss, h⟩
theorem WSs.nil {D : Ends} {σ : St} {H : Hp} (h : D.nx σ H) : WSs X [] D σ H := ⟨_, pss_nil, h⟩
end

/-! ### rules over typed data -/
section
variable {ι : Type} (F : ι → Cx) (K : Fg) (B : Bs) (Γ : Gm) (O : List Own)
/-- an expression gives x, as r says; behind it the own objects are O' -/
def DW (e : Expr) {α : Type} (r : Rp α) (Φ : α → List Own → Prop) : Prop :=
  ∀ σ G H, Ws K B Γ O σ G H → ∀ Q : VK, (∀ x O' v G' H', Φ x O' → Ws K B Γ O' σ G' H' → Ex G G' → r.rep K G' v x → Q v H') → WE F e σ H Q
def DT (e : Expr) (Φ : Bool → List Own → Prop) : Prop :=
  ∀ σ G H, Ws K B Γ O σ G H → ∀ Q : Bool → Hp → Prop, (∀ b O' G' H', Φ b O' → Ws K B Γ O' σ G' H' → Ex G G' → Q b H') → WT F e σ H Q
def DP (e : Expr) (Φ : Bool → List Own → Prop) : Prop :=
  ∀ σ G H, Ws K B Γ O σ G H → ∀ Q : Bool → Hp → Prop, (∀ b O' G' H', Φ b O' → Ws K B Γ O' σ G' H' → Ex G G' → Q b H') → WP F e σ H Q
def DTs (es : List Expr) (Φ : Bool → List Own → Prop) : Prop :=
  ∀ σ G H, Ws K B Γ O σ G H → ∀ Q : Bool → Hp → Prop, (∀ b O' G' H', Φ b O' → Ws K B Γ O' σ G' H' → Ex G G' → Q b H') → WTs F es σ H Q
def DA (es : List Expr) {α : Type} (r : RpF α) (Φ : α → List Own → Prop) : Prop :=
  ∀ σ G H, Ws K B Γ O σ G H → ∀ Q : List V → Hp → Prop, (∀ x O' v G' H', Φ x O' → Ws K B Γ O' σ G' H' → Ex G G' → r.rep K G' v x → Q v H') → WA F es σ H Q
/-- a two-place operation; a one-place one; a call of a built-in -/
def OW (f : Value → Value → Sem Value) {α β γ : Type} (ra : Rp α) (rb : Rp β) (x : α) (y : β) (rc : Rp γ) (Φ : γ → List Own → Prop) : Prop :=
  ∀ σ G H v w, Ws K B Γ O σ G H → ra.rep K G v x → rb.rep K G w y → ∀ Q : VK, (∀ z O' u G' H', Φ z O' → Ws K B Γ O' σ G' H' → Ex G G' → rc.rep K G' u z → Q u H') → wOp F f v w H Q
def UW (f : Value → Sem Value) {α γ : Type} (ra : Rp α) (x : α) (rc : Rp γ) (Φ : γ → List Own → Prop) : Prop :=
  ∀ σ G H v, Ws K B Γ O σ G H → ra.rep K G v x → ∀ Q : VK, (∀ z O' u G' H', Φ z O' → Ws K B Γ O' σ G' H' → Ex G G' → rc.rep K G' u z → Q u H') → wUn F f v H Q
def IW {α β γ : Type} (ra : Rp α) (rb : Rp β) (x : α) (y : β) (rc : Rp γ) (Φ : γ → List Own → Prop) : Prop :=
  ∀ σ G H v w, Ws K B Γ O σ G H → ra.rep K G v x → rb.rep K G w y → ∀ Q : VK, (∀ z O' u G' H', Φ z O' → Ws K B Γ O' σ G' H' → Ex G G' → rc.rep K G' u z → Q u H') → wIx F v w H Q
def CW (f : Value) {α γ : Type} (ra : RpF α) (x : α) (rc : Rp γ) (Φ : γ → List Own → Prop) : Prop :=
  ∀ σ G H vs, Ws K B Γ O σ G H → ra.rep K G vs x → ∀ Q : VK, (∀ z O' u G' H', Φ z O' → Ws K B Γ O' σ G' H' → Ex G G' → rc.rep K G' u z → Q u H') → wCl F f vs H Q
/-- a promise is asked -/
def SW (sp : Sp) (dvs : List V) {α γ : Type} (ra : RpF α) (x : α) (rc : Rp γ) (Φ : γ → List Own → Prop) : Prop :=
  ∀ σ G H vs, Ws K B Γ O σ G H → ra.rep K G vs x → ∀ Q : VK, (∀ z O' u G' H', Φ z O' → Ws K B Γ O' σ G' H' → Ex G G' → rc.rep K G' u z → Q u H') → sp (vs ++ dvs) H Q E0
end
section
variable {ι : Type} {F : ι → Cx} {K : Fg} {B : Bs} {Γ : Gm} {O : List Own} {α β γ : Type} {ra : Rp α} {rb : Rp β} {rc : Rp γ} {a b c e : Expr} {es : List Expr} {pos p : Pos} {n : Str}

/-! names, constants -/
class At (Γ : Gm) (i : Nat) {α : outParam Type} (r : outParam (Rp α)) (x : outParam α) : Prop where
  get : Γ[i]? = some (some ⟨r, x⟩)
instance at0 {Γ : Gm} {α : Type} {r : Rp α} {x : α} : At (some ⟨r, x⟩ :: Γ) 0 r x := ⟨rfl⟩
instance atS {Γ : Gm} {g : Option Slot} {i : Nat} {α : Type} {r : Rp α} {x : α} [h : At Γ i r x] : At (g :: Γ) (i + 1) r x := ⟨h.get⟩
theorem d_var (i : Nat) {x : α} {Φ : α → List Own → Prop} [hA : At Γ i ra x] (k : Φ x O) (hN : ∀ j, (F j).N[i]? = some n := by intro _; rfl)
    (hv : ∀ j, Vis (F j).env.scope n := by intro _; first | exact Or.inl rfl | exact Or.inr (Or.inl rfl) | exact Or.inr (Or.inr rfl)) (hd : (n == ("__debug__" : Str)) = false := by decide)
    (hcd : (n == ("__classdict__" : Str)) = false := by decide) : DW F K B Γ O (.Name n pos) ra Φ := by
  intro σ G H W Q q
  obtain ⟨u, h1, h2⟩ := W.env.get hA.get
  exact ⟨_, fun j => pe_var (hN j) (hv j) hd hcd, u, h1, q x O u G H k W (Ex.refl _) h2⟩
theorem d_int {j : Int} {i : Nat} {Φ : Int → List Own → Prop} (k : Φ j O) : DW F K B Γ O (.Constant (.int j) i pos) rInt Φ :=
  fun σ G H W Q q => ⟨_, fun _ => pe_int, q j O _ G H k W (Ex.refl _) rfl⟩
theorem d_bl {j : Bool} {i : Nat} {Φ : Bool → List Own → Prop} (k : Φ j O) : DW F K B Γ O (.Constant (.bool j) i pos) rBool Φ :=
  fun σ G H W Q q => ⟨_, fun _ => pe_bl, q j O _ G H k W (Ex.refl _) rfl⟩
theorem d_str {j : Str} {i : Nat} {Φ : Str → List Own → Prop} (k : Φ j O) : DW F K B Γ O (.Constant (.str j) i pos) rStr Φ :=
  fun σ G H W Q q => ⟨_, fun _ => pe_str, q j O _ G H k W (Ex.refl _) rfl⟩
theorem d_non {i : Nat} {Φ : Unit → List Own → Prop} (k : Φ () O) : DW F K B Γ O (.Constant .none i pos) rNon Φ :=
  fun σ G H W Q q => ⟨_, fun _ => pe_non, q () O _ G H k W (Ex.refl _) rfl⟩
/-- None where a thing or None is wanted -/
theorem d_none {i : Nat} {Φ : Option α → List Own → Prop} (k : Φ none O) : DW F K B Γ O (.Constant .none i pos) (rOpt ra) Φ :=
  fun σ G H W Q q => ⟨_, fun _ => pe_non, q none O _ G H k W (Ex.refl _) rfl⟩
/-- a module's constant; a built-in class as a value -/
theorem d_globF {v : V} {u : Value} {x : α} {Φ : α → List Own → Prop} (hm : ∀ j, (F j).mg n = some u) (r : RelV v u) (hx : ∀ G, ra.rep K G v x) (k : Φ x O) (hg : ∀ j, Gl (F j) n := by intro _; rfl) (hd : (n == ("__debug__" : Str)) = false := by decide) :
    DW F K B Γ O (.Name n pos) ra Φ :=
  fun σ G H W Q q => ⟨_, fun j => pe_glob (hg j) (hm j) r hd, q x O _ G H k W (Ex.refl _) (hx G)⟩
theorem d_bltnF {v : V} {u : Value} {x : α} {Φ : α → List Own → Prop} (hm : ∀ j, (F j).mg n = none) (hv : bootBuiltins n = some u) (r : RelV v u) (hx : ∀ G, ra.rep K G v x) (k : Φ x O) (hg : ∀ j, Gl (F j) n := by intro _; rfl)
    (hn : n ≠ "__name__" := by decide) (hd : (n == ("__debug__" : Str)) = false := by decide) : DW F K B Γ O (.Name n pos) ra Φ :=
  fun σ G H W Q q => ⟨_, fun j => pe_bltn (hg j) (hm j) hv r hn hd, q x O _ G H k W (Ex.refl _) (hx G)⟩
/-- seen as another kind of thing -/
theorem d_as {x : α} {f : α → β → Prop} {Φ : β → List Own → Prop} (h : DW F K B Γ O e ra fun x O1 => ∃ y, (∀ G v, ra.rep K G v x → rb.rep K G v y) ∧ Φ y O1) : DW F K B Γ O e rb Φ := fun σ G H W Q q =>
  h σ G H W Q fun x O' v G' H' ⟨y, c, k⟩ W' e' hv => q y O' v G' H' k W' e' (c _ _ hv)
theorem d_mono {Φ Ψ : α → List Own → Prop} (h : DW F K B Γ O e ra Φ) (k : ∀ x O', Φ x O' → Ψ x O') : DW F K B Γ O e ra Ψ := fun σ G H W Q q => h σ G H W Q fun x O' v G' H' p => q x O' v G' H' (k x O' p)
theorem dt_mono {Φ Ψ : Bool → List Own → Prop} (h : DT F K B Γ O e Φ) (k : ∀ x O', Φ x O' → Ψ x O') : DT F K B Γ O e Ψ := fun σ G H W Q q => h σ G H W Q fun x O' G' H' p => q x O' G' H' (k x O' p)

/-! operators -/
theorem d_bin {op : Operator} {Φ : γ → List Own → Prop} (h : DW F K B Γ O a ra fun x O1 => DW F K B Γ O1 b rb fun y O2 => OW F K B Γ O2 (binaryOp op) ra rb x y rc Φ) : DW F K B Γ O (.BinOp a op b pos) rc Φ := by
  intro σ G H W Q q
  refine ⟨_, fun i => pe_op (wOp.op i) (WE.pe i) (WE.pe i), ?_⟩
  refine h σ G H W _ fun x O1 v G1 H1 h1 W1 e1 r1 => ?_
  refine h1 σ G1 H1 W1 _ fun y O2 w G2 H2 h2 W2 e2 r2 => ?_
  exact h2 σ G2 H2 v w W2 (ra.mono e2 r1) r2 Q fun z O' u G' H' k W' e' r' => q z O' u G' H' k W' ((e1.trans e2).trans e') r'
theorem d_un {op : UnaryOp} {Φ : γ → List Own → Prop} (h : DW F K B Γ O a ra fun x O1 => UW F K B Γ O1 (unaryOp op) ra x rc Φ) : DW F K B Γ O (.UnaryOp op a pos) rc Φ := by
  intro σ G H W Q q
  refine ⟨_, fun i => pe_un (wUn.un i) (WE.pe i), ?_⟩
  refine h σ G H W _ fun x O1 v G1 H1 h1 W1 e1 r1 => ?_
  exact h1 σ G1 H1 v W1 r1 Q fun z O' u G' H' k W' e' r' => q z O' u G' H' k W' (e1.trans e') r'
theorem d_cmp {op : CmpOp} {Φ : γ → List Own → Prop} (h : DW F K B Γ O a ra fun x O1 => DW F K B Γ O1 b rb fun y O2 => OW F K B Γ O2 (compareOp op) ra rb x y rc Φ)
    (hm : behindInMarks op b = false := by first | exact nomark _ | rfl) : DW F K B Γ O (.Compare a [op] [b] pos) rc Φ := by
  intro σ G H W Q q
  refine ⟨_, fun i => pe_cmpR (wOp.op i) (WE.pe i) (WE.pe i) hm, ?_⟩
  refine h σ G H W _ fun x O1 v G1 H1 h1 W1 e1 r1 => ?_
  refine h1 σ G1 H1 W1 _ fun y O2 w G2 H2 h2 W2 e2 r2 => ?_
  exact h2 σ G2 H2 v w W2 (ra.mono e2 r1) r2 Q fun z O' u G' H' k W' e' r' => q z O' u G' H' k W' ((e1.trans e2).trans e') r'
theorem dt_cmp {op : CmpOp} {Φ : Bool → List Own → Prop} (h : DW F K B Γ O a ra fun x O1 => DW F K B Γ O1 b rb fun y O2 => OW F K B Γ O2 (compareOp op) ra rb x y rBool Φ)
    (hm : behindInMarks op b = false := by first | exact nomark _ | rfl) : DT F K B Γ O (.Compare a [op] [b] pos) Φ := by
  intro σ G H W Q q
  refine ⟨_, fun i => pt_cmpR (wOp.op i) (WE.pe i) (WE.pe i) hm, ?_⟩
  refine h σ G H W _ fun x O1 v G1 H1 h1 W1 e1 r1 => ?_
  refine h1 σ G1 H1 W1 _ fun y O2 w G2 H2 h2 W2 e2 r2 => ?_
  exact h2 σ G2 H2 v w W2 (ra.mono e2 r1) r2 _ fun z O' u G' H' k W' e' r' => ⟨z, r', q z O' G' H' k W' ((e1.trans e2).trans e')⟩
/-- a op b op' c -/
theorem d_chain {op op' : CmpOp} {Φ : Bool → List Own → Prop} (h : DW F K B Γ O a ra fun x O1 => DW F K B Γ O1 b rb fun y O2 => OW F K B Γ O2 (compareOp op) ra rb x y rBool fun z O3 =>
      (z = true → DW F K B Γ O3 c rc fun w O4 => OW F K B Γ O4 (compareOp op') rb rc y w rBool Φ) ∧ (z = false → Φ false O3))
    (hm : lastMarks [op, op'] [b, c] = false := by with_unfolding_all rfl) : DW F K B Γ O (.Compare a [op, op'] [b, c] pos) rBool Φ := by
  intro σ G H W Q q
  refine ⟨_, fun i => pe_chain (wOp.op i) (wOp.op i) (WE.pe i) (WE.pe i) (WE.pe i) hm, ?_⟩
  refine h σ G H W _ fun x O1 v G1 H1 h1 W1 e1 r1 => ?_
  refine h1 σ G1 H1 W1 _ fun y O2 w G2 H2 h2 W2 e2 r2 => ?_
  refine h2 σ G2 H2 v w W2 (ra.mono e2 r1) r2 _ fun z O3 u G3 H3 k W3 e3 r3 => ⟨z, r3, ?_⟩
  have e13 := (e1.trans e2).trans e3
  cases z with
  | false => exact q false O3 _ G3 H3 (k.2 rfl) W3 e13 rfl
  | true =>
    refine k.1 rfl σ G3 H3 W3 _ fun w' O4 v4 G4 H4 h4 W4 e4 r4 => ?_
    exact h4 σ G4 H4 w v4 W4 (rb.mono (e3.trans e4) r2) r4 Q fun z O' u G' H' k W' e' r' => q z O' u G' H' k W' ((e13.trans e4).trans e') r'
theorem dt_chain {op op' : CmpOp} {Φ : Bool → List Own → Prop} (h : DW F K B Γ O a ra fun x O1 => DW F K B Γ O1 b rb fun y O2 => OW F K B Γ O2 (compareOp op) ra rb x y rBool fun z O3 =>
      (z = true → DW F K B Γ O3 c rc fun w O4 => OW F K B Γ O4 (compareOp op') rb rc y w rBool Φ) ∧ (z = false → Φ false O3))
    (hm : lastMarks [op, op'] [b, c] = false := by with_unfolding_all rfl) : DT F K B Γ O (.Compare a [op, op'] [b, c] pos) Φ := by
  intro σ G H W Q q
  refine ⟨_, fun i => pt_chain (wOp.op i) (wOp.op i) (WE.pe i) (WE.pe i) (WE.pe i) hm, ?_⟩
  refine h σ G H W _ fun x O1 v G1 H1 h1 W1 e1 r1 => ?_
  refine h1 σ G1 H1 W1 _ fun y O2 w G2 H2 h2 W2 e2 r2 => ?_
  refine h2 σ G2 H2 v w W2 (ra.mono e2 r1) r2 _ fun z O3 u G3 H3 k W3 e3 r3 => ⟨z, r3, ?_⟩
  have e13 := (e1.trans e2).trans e3
  cases z with
  | false => exact ⟨false, rfl, q false O3 G3 H3 (k.2 rfl) W3 e13⟩
  | true =>
    refine k.1 rfl σ G3 H3 W3 _ fun w' O4 v4 G4 H4 h4 W4 e4 r4 => ?_
    exact h4 σ G4 H4 w v4 W4 (rb.mono (e3.trans e4) r2) r4 _ fun z O' u G' H' k W' e' r' => ⟨z, r', q z O' G' H' k W' ((e13.trans e4).trans e')⟩

/-! tests -/
theorem dt_val {Φ : Bool → List Own → Prop} (h : DW F K B Γ O e rBool Φ) (he : ∀ i whole, isTrue e (F i).env whole = (do let v ← whole; standAt e.pos; holding [v] (truthy v)) := by intro _ _; rfl) : DT F K B Γ O e Φ := by
  intro σ G H W Q q
  refine ⟨_, fun i => pt_val (WE.pe i) (he i), ?_⟩
  exact h σ G H W _ fun x O1 v G1 H1 k W1 e1 r1 => ⟨x, r1, q x O1 G1 H1 k W1 e1⟩
theorem dt_not {Φ : Bool → List Own → Prop} (h : DT F K B Γ O a fun x O1 => Φ (!x) O1) : DT F K B Γ O (.UnaryOp .Not a pos) Φ := by
  intro σ G H W Q q
  refine ⟨_, fun i => pt_not (WT.pt i), ?_⟩
  exact h σ G H W _ fun x O1 G1 H1 k W1 e1 => q _ O1 G1 H1 k W1 e1
theorem dt_bool {op : BoolOp} {Φ : Bool → List Own → Prop} (h : DP F K B Γ O (.BoolOp op es pos) Φ) : DT F K B Γ O (.BoolOp op es pos) Φ := by
  intro σ G H W Q q
  exact ⟨_, fun i => (WP.pw i).pt, h σ G H W Q q⟩
theorem dp_and {Φ : Bool → List Own → Prop} (h : DT F K B Γ O a fun x O1 => (x = true → DP F K B Γ O1 (.BoolOp .And (b :: es) pos) Φ) ∧ (x = false → Φ false O1)) : DP F K B Γ O (.BoolOp .And (a :: b :: es) pos) Φ := by
  intro σ G H W Q q
  refine ⟨_, fun i => pw_and (WT.pt i) (WP.pw i), ?_⟩
  refine h σ G H W _ fun x O1 G1 H1 k W1 e1 => ?_
  cases x with
  | true => exact k.1 rfl σ G1 H1 W1 Q fun x O2 G2 H2 k W2 e2 => q x O2 G2 H2 k W2 (e1.trans e2)
  | false => exact q false O1 G1 H1 (k.2 rfl) W1 e1
theorem dp_or {Φ : Bool → List Own → Prop} (h : DT F K B Γ O a fun x O1 => (x = false → DP F K B Γ O1 (.BoolOp .Or (b :: es) pos) Φ) ∧ (x = true → Φ true O1)) : DP F K B Γ O (.BoolOp .Or (a :: b :: es) pos) Φ := by
  intro σ G H W Q q
  refine ⟨_, fun i => pw_or (WT.pt i) (WP.pw i), ?_⟩
  refine h σ G H W _ fun x O1 G1 H1 k W1 e1 => ?_
  cases x with
  | false => exact k.1 rfl σ G1 H1 W1 Q fun x O2 G2 H2 k W2 e2 => q x O2 G2 H2 k W2 (e1.trans e2)
  | true => exact q true O1 G1 H1 (k.2 rfl) W1 e1
theorem dp_and1 {Φ : Bool → List Own → Prop} (h : DT F K B Γ O a Φ) : DP F K B Γ O (.BoolOp .And [a] pos) Φ := fun σ G H W Q q => ⟨_, fun i => pw_and1 (WT.pt i), h σ G H W Q q⟩
theorem dp_or1 {Φ : Bool → List Own → Prop} (h : DT F K B Γ O a Φ) : DP F K B Γ O (.BoolOp .Or [a] pos) Φ := fun σ G H W Q q => ⟨_, fun i => pw_or1 (WT.pt i), h σ G H W Q q⟩
/-- as values, all True or False -/
theorem d_and {Φ : Bool → List Own → Prop} (h : DW F K B Γ O a rBool fun x O1 => (x = true → DW F K B Γ O1 (.BoolOp .And (b :: es) pos) rBool Φ) ∧ (x = false → Φ false O1)) : DW F K B Γ O (.BoolOp .And (a :: b :: es) pos) rBool Φ := by
  intro σ G H W Q q
  refine ⟨_, fun i => pe_and (WE.pe i) (WE.pe i), ?_⟩
  refine h σ G H W _ fun x O1 v G1 H1 k W1 e1 r1 => ⟨x, r1, ?_⟩
  cases x with
  | true => exact k.1 rfl σ G1 H1 W1 Q fun x O2 v G2 H2 k W2 e2 r2 => q x O2 v G2 H2 k W2 (e1.trans e2) r2
  | false => exact q false O1 _ G1 H1 (k.2 rfl) W1 e1 rfl
theorem d_or {Φ : Bool → List Own → Prop} (h : DW F K B Γ O a rBool fun x O1 => (x = false → DW F K B Γ O1 (.BoolOp .Or (b :: es) pos) rBool Φ) ∧ (x = true → Φ true O1)) : DW F K B Γ O (.BoolOp .Or (a :: b :: es) pos) rBool Φ := by
  intro σ G H W Q q
  refine ⟨_, fun i => pe_or (WE.pe i) (WE.pe i), ?_⟩
  refine h σ G H W _ fun x O1 v G1 H1 k W1 e1 r1 => ⟨x, r1, ?_⟩
  cases x with
  | false => exact k.1 rfl σ G1 H1 W1 Q fun x O2 v G2 H2 k W2 e2 r2 => q x O2 v G2 H2 k W2 (e1.trans e2) r2
  | true => exact q true O1 _ G1 H1 (k.2 rfl) W1 e1 rfl
theorem d_one {op : BoolOp} {Φ : α → List Own → Prop} (h : DW F K B Γ O a ra Φ) : DW F K B Γ O (.BoolOp op [a] pos) ra Φ := fun σ G H W Q q => ⟨_, fun i => pe_one (WE.pe i), h σ G H W Q q⟩
theorem d_not {Φ : Bool → List Own → Prop} (h : DW F K B Γ O a rBool fun x O1 => Φ (!x) O1) : DW F K B Γ O (.UnaryOp .Not a pos) rBool Φ := by
  intro σ G H W Q q
  refine ⟨_, fun i => pe_not (WE.pe i), ?_⟩
  exact h σ G H W _ fun x O1 v G1 H1 k W1 e1 r1 => ⟨x, r1, q _ O1 _ G1 H1 k W1 e1 rfl⟩
theorem d_ite {Φ : α → List Own → Prop} (h : DT F K B Γ O c fun x O1 => (x = true → DW F K B Γ O1 a ra Φ) ∧ (x = false → DW F K B Γ O1 b ra Φ)) : DW F K B Γ O (.IfExp c a b pos) ra Φ := by
  intro σ G H W Q q
  refine ⟨_, fun i => pe_ifExp (WT.pt i) (WE.pe i) (WE.pe i), ?_⟩
  refine h σ G H W _ fun x O1 G1 H1 k W1 e1 => ?_
  cases x with
  | true => exact k.1 rfl σ G1 H1 W1 Q fun x O2 v G2 H2 k W2 e2 r2 => q x O2 v G2 H2 k W2 (e1.trans e2) r2
  | false => exact k.2 rfl σ G1 H1 W1 Q fun x O2 v G2 H2 k W2 e2 r2 => q x O2 v G2 H2 k W2 (e1.trans e2) r2

/-! argument lists, displays -/
theorem da_nil {Φ : Unit → List Own → Prop} (k : Φ () O) : DA F K B Γ O [] fNil Φ := fun σ G H W Q q => ⟨_, fun i => pa_nil, q () O [] G H k W (Ex.refl _) rfl⟩
theorem da_one {Φ : α → List Own → Prop} (h : DW F K B Γ O a ra Φ) (hs : ∀ i, starEach [a] (F i).env = (false, eval a (F i).env) :: starEach [] (F i).env := by intro _; rfl) : DA F K B Γ O [a] (fOne ra) Φ := by
  intro σ G H W Q q
  refine ⟨_, fun i => pa_cons (WE.pe i) pa_nil (hs i), ?_⟩
  exact h σ G H W _ fun x O1 v G1 H1 k W1 e1 r1 => q x O1 [v] G1 H1 k W1 e1 ⟨v, rfl, r1⟩
theorem da_cons {f : RpF β} {Φ : α × β → List Own → Prop} (h : DW F K B Γ O a ra fun x O1 => DA F K B Γ O1 es f fun y O2 => Φ (x, y) O2)
    (hs : ∀ i, starEach (a :: es) (F i).env = (false, eval a (F i).env) :: starEach es (F i).env := by intro _; rfl) : DA F K B Γ O (a :: es) (fCons ra f) Φ := by
  intro σ G H W Q q
  refine ⟨_, fun i => pa_cons (WE.pe i) (WA.pa i) (hs i), ?_⟩
  refine h σ G H W _ fun x O1 v G1 H1 k W1 e1 r1 => ?_
  exact k σ G1 H1 W1 _ fun y O2 vs G2 H2 k2 W2 e2 r2 => q (x, y) O2 (v :: vs) G2 H2 k2 W2 (e1.trans e2) ⟨v, vs, rfl, ra.mono e2 r1, r2⟩
/-- items that are alike -/
def fAll (r : Rp α) : RpF (List α) := ⟨fun K G vs xs => All2 (r.rep K G) vs xs, fun e h => h.mono fun _ _ z => r.mono e z⟩
theorem da_all {Φ : List α → List Own → Prop} (h : DW F K B Γ O a ra fun x O1 => DA F K B Γ O1 es (fAll ra) fun y O2 => Φ (x :: y) O2)
    (hs : ∀ i, starEach (a :: es) (F i).env = (false, eval a (F i).env) :: starEach es (F i).env := by intro _; rfl) : DA F K B Γ O (a :: es) (fAll ra) Φ := by
  intro σ G H W Q q
  refine ⟨_, fun i => pa_cons (WE.pe i) (WA.pa i) (hs i), ?_⟩
  refine h σ G H W _ fun x O1 v G1 H1 k W1 e1 r1 => ?_
  exact k σ G1 H1 W1 _ fun y O2 vs G2 H2 k2 W2 e2 r2 => q (x :: y) O2 (v :: vs) G2 H2 k2 W2 (e1.trans e2) ⟨ra.mono e2 r1, r2⟩
theorem da_all0 {Φ : List α → List Own → Prop} (k : Φ [] O) : DA F K B Γ O [] (fAll ra) Φ := fun σ G H W Q q => ⟨_, fun i => pa_nil, q [] O [] G H k W (Ex.refl _) trivial⟩
/-- its number of values is known -/
class Len {α : Type} (f : RpF α) (n : outParam Nat) : Prop where
  len : ∀ {K : Fg} {G : Hp} {vs : List V} {x : α}, f.rep K G vs x → vs.length = n
instance lenNil : Len fNil 0 := ⟨fun h => by rw [show _ = ([] : List V) from h]; rfl⟩
instance lenOne {r : Rp α} : Len (fOne r) 1 := ⟨fun ⟨v, h, _⟩ => by rw [h]; rfl⟩
instance lenCons {r : Rp α} {f : RpF β} {n : Nat} [h : Len f n] : Len (fCons r f) (n + 1) := ⟨fun ⟨v, ws, h1, _, h3⟩ => by rw [h1, List.length_cons, h.len h3]⟩
theorem d_tup {f : RpF α} {k : Nat} {m : Nat} [hl : Len f m] {Φ : α → List Own → Prop} (h : DA F K B Γ O es f Φ) (hm : m ≤ sizeLine := by decide) : DW F K B Γ O (.Tuple es k pos) (rTup f) Φ := by
  intro σ G H W Q q
  refine ⟨_, fun i => pe_tup (WA.pa i), ?_⟩
  refine h σ G H W _ fun x O1 vs G1 H1 k W1 e1 r1 => ⟨by rw [hl.len r1]; exact hm, fun p hp => ?_⟩
  have s : Stp B.T [] G1 H1 (upd G1 p (.tup vs)) (upd H1 p (.tup vs)) := Stp.new W1.sub hp
  exact q x O1 _ _ _ k (W1.step s) (e1.trans s.g) ⟨p, vs, rfl, SqT.of upd_same, f.mono s.g r1⟩
/-- a tuple whose items are alike -/
theorem d_tpv {k : Nat} {Φ : List α → List Own → Prop} (h : DA F K B Γ O es (fAll ra) fun x O1 => x.length ≤ sizeLine ∧ Φ x O1) : DW F K B Γ O (.Tuple es k pos) (rTpv ra) Φ := by
  intro σ G H W Q q
  refine ⟨_, fun i => pe_tup (WA.pa i), ?_⟩
  refine h σ G H W _ fun x O1 vs G1 H1 k W1 e1 r1 => ⟨by rw [All2.length r1]; exact k.1, fun p hp => ?_⟩
  have s : Stp B.T [] G1 H1 (upd G1 p (.tup vs)) (upd H1 p (.tup vs)) := Stp.new W1.sub hp
  exact q x O1 _ _ _ k.2 (W1.step s) (e1.trans s.g) ⟨p, vs, rfl, SqT.of upd_same, (fAll ra).mono s.g r1⟩
theorem d_lst {Φ : List α → List Own → Prop} (h : DA F K B Γ O es (fAll ra) fun x O1 => x.length ≤ sizeLine ∧ Φ x O1) : DW F K B Γ O (.List es pos) (rLst ra) Φ := by
  intro σ G H W Q q
  refine ⟨_, fun i => pe_lst (WA.pa i), ?_⟩
  refine h σ G H W _ fun x O1 vs G1 H1 k W1 e1 r1 => ⟨by rw [All2.length r1]; exact k.1, fun p hp => ?_⟩
  have s : Stp B.T [] G1 H1 (upd G1 p (.lst vs)) (upd H1 p (.lst vs)) := Stp.new W1.sub hp
  exact q x O1 _ _ _ k.2 (W1.step s) (e1.trans s.g) ⟨p, vs, rfl, upd_same, (fAll ra).mono s.g r1⟩
/-- a list of one's own -/
theorem d_lstO {Φ : Addr → List Own → Prop} (h : DA F K B Γ O es (fAll ra) fun x O1 => x.length ≤ sizeLine ∧ ∀ p, p ∉ B.M → Φ p (⟨p, oLst ra, x⟩ :: O1)) : DW F K B Γ O (.List es pos) rAdr Φ := by
  intro σ G H W Q q
  refine ⟨_, fun i => pe_lst (WA.pa i), ?_⟩
  refine h σ G H W _ fun x O1 vs G1 H1 k W1 e1 r1 => ⟨by rw [All2.length r1]; exact k.1, fun p hp => ?_⟩
  exact q p _ _ G1 _ (k.2 p (W1.notM hp)) (W1.newOwn hp (r := oLst ra) (x := x) ⟨vs, rfl, r1⟩) e1 rfl

/-! calls -/
/-- what a family of contexts shares -/
class Fam (F : ι → Cx) (P : outParam Program) (w : outParam World) (K : outParam Fg) (mg : outParam (Str → Option Value)) (base : outParam Heap) (k : outParam Nat) : Prop where
  pr : ∀ i, (F i).prog = P
  wd : ∀ i, (F i).w = w
  ka : ∀ i, (F i).K = K
  mg : ∀ i, (F i).mg = mg
  bs : ∀ i, (F i).base = base
  rm : ∀ i, Room k (F i).A
  cm : ∀ i, (F i).calm = true
  nd : ∀ i, (F i).N.Nodup
variable {P : Program} {w : World} {mg : Str → Option Value} {base : Heap} {k : Nat}
/-- a def of the module -/
structure Df (K : Fg) (mg : Str → Option Value) (n : Str) (st : Stmt) (ps : List Str) where
  f : Addr
  fd : FuncData
  F : Fun K n n st f fd
  m : mg n = some (.ref f)
  b : Binds K fd ps []
/-- a call of a def -/
theorem d_call [fam : Fam F P w K mg base k] {j : Nat} {st : Stmt} {ps : List Str} {sp : Sp} (D : Df K mg n st ps) (G : FnOk P w K mg base CX0 j D.f D.fd ps sp) {g : RpF α} {Φ : γ → List Own → Prop}
    (h : DA F K B Γ O (e :: es) g fun x O1 => SW K B Γ O1 sp [] g x rc Φ) (hj : j ≤ k := by decide) (hdb : (n == ("__debug__" : Str)) = false := by decide) (hg : ∀ i, Gl (F i) n := by intro _; rfl)
    (he : ∀ i, starEach (e :: es) (F i).env = (false, eval e (F i).env) :: starEach es (F i).env := by intro _; rfl) (hpl : ∀ i, (backTo pos (starEach es (F i).env)).any (·.1) = false := by intro _; rfl) :
    DW F K B Γ O (.Call (.Name n p) (e :: es) [] pos) rc Φ := by
  intro σ G' H W Q q
  refine ⟨tCall sp [] E0 (WA F (e :: es)), fun i => ?_, h σ G' H W _ fun x O1 vs G1 H1 k W1 e1 r1 => k σ G1 H1 vs W1 r1 Q fun z O' u G2 H2 k2 W2 e2 r2 => q z O' u G2 H2 k2 W2 (e1.trans e2) r2⟩
  have h1 := fam.pr i
  have h2 := fam.wd i
  have h3 := fam.ka i
  have h4 := fam.mg i
  have h5 := fam.bs i
  have G2 : FnOk (F i).prog (F i).w (F i).K (F i).mg (F i).base CX0 j D.f D.fd ps sp := by rw [h1, h2, h3, h4, h5]; exact G
  have m2 : (F i).mg n = some (.ref D.f) := by rw [h4]; exact D.m
  have k2 : PySem.W.keepIn (F i).K (.ref D.f) = true := by rw [h3]; exact D.F.kp
  have b2 : Binds (F i).K D.fd ps [] := by rw [h3]; exact D.b
  exact pe_call G2 ((fam.rm i).mono hj) (hg i) m2 k2 b2 .nil pass0 (WA.pa i) (hdb := hdb) (he := he i) (hpl := hpl i)
/-- a call of a built-in function, of a built-in type -/
theorem d_callB [fam : Fam F P w K mg base k] {id : String} {g : RpF α} {Φ : γ → List Own → Prop} (hm : mg n = none) (hv : bootBuiltins n = some (.builtin id)) (h : DA F K B Γ O (e :: es) g fun x O1 => CW F K B Γ O1 (.builtin id) g x rc Φ)
    (hg : ∀ i, Gl (F i) n := by intro _; rfl) (hn : n ≠ "__name__" := by decide) (hdb : (n == ("__debug__" : Str)) = false := by decide)
    (he : ∀ i, starEach (e :: es) (F i).env = (false, eval e (F i).env) :: starEach es (F i).env := by intro _; rfl) (hpl : ∀ i, (backTo pos (starEach es (F i).env)).any (·.1) = false := by intro _; rfl) :
    DW F K B Γ O (.Call (.Name n p) (e :: es) [] pos) rc Φ := by
  intro σ G H W Q q
  refine ⟨_, fun i => pe_callB (wCl.cl i) (hg i) (by rw [fam.mg i]; exact hm) hv (WA.pa i) hn hdb (he i) (hpl i), ?_⟩
  refine h σ G H W _ fun x O1 vs G1 H1 k W1 e1 r1 => ?_
  exact k σ G1 H1 vs W1 r1 Q fun z O' u G2 H2 k2 W2 e2 r2 => q z O' u G2 H2 k2 W2 (e1.trans e2) r2
theorem d_callT [fam : Fam F P w K mg base k] {T : String} {g : RpF α} {Φ : γ → List Own → Prop} (hm : mg n = none) (hv : bootBuiltins n = some (.type T)) (h : DA F K B Γ O (e :: es) g fun x O1 => CW F K B Γ O1 (.type T) g x rc Φ)
    (hg : ∀ i, Gl (F i) n := by intro _; rfl) (hn : n ≠ "__name__" := by decide) (hdb : (n == ("__debug__" : Str)) = false := by decide)
    (he : ∀ i, starEach (e :: es) (F i).env = (false, eval e (F i).env) :: starEach es (F i).env := by intro _; rfl) (hpl : ∀ i, (backTo pos (starEach es (F i).env)).any (·.1) = false := by intro _; rfl) :
    DW F K B Γ O (.Call (.Name n p) (e :: es) [] pos) rc Φ := by
  intro σ G H W Q q
  refine ⟨_, fun i => pe_callTy (wCl.cl i) (hg i) (by rw [fam.mg i]; exact hm) hv (WA.pa i) hn hdb (he i) (hpl i), ?_⟩
  refine h σ G H W _ fun x O1 vs G1 H1 k W1 e1 r1 => ?_
  exact k σ G1 H1 vs W1 r1 Q fun z O' u G2 H2 k2 W2 e2 r2 => q z O' u G2 H2 k2 W2 (e1.trans e2) r2
/-- a module's constant; a built-in class as a value -/
theorem d_glob [fam : Fam F P w K mg base k] {v : V} {u : Value} {x : α} {Φ : α → List Own → Prop} (hm : mg n = some u) (r : RelV v u) (hx : ∀ G, ra.rep K G v x) (k : Φ x O) (hg : ∀ j, Gl (F j) n := by intro _; rfl) (hd : (n == ("__debug__" : Str)) = false := by decide) :
    DW F K B Γ O (.Name n pos) ra Φ := d_globF (fun j => by rw [fam.mg j]; exact hm) r hx k hg hd
theorem d_cls [fam : Fam F P w K mg base k] {T : String} {Φ : String → List Own → Prop} (hm : mg n = none) (hv : bootBuiltins n = some (.type T)) (k : Φ T O) (hg : ∀ j, Gl (F j) n := by intro _; rfl)
    (hn : n ≠ "__name__" := by decide) (hd : (n == ("__debug__" : Str)) = false := by decide) : DW F K B Γ O (.Name n pos) rTy Φ := d_bltnF (v := .ty T) (fun j => by rw [fam.mg j]; exact hm) hv rfl (fun _ => rfl) k hg hn hd
/-- a[b] -/
theorem d_ix {Φ : γ → List Own → Prop} (h : DW F K B Γ O a ra fun x O1 => DW F K B Γ O1 b rb fun y O2 => IW F K B Γ O2 ra rb x y rc Φ) (hs : PlainIx b := by intro _ _; rfl) : DW F K B Γ O (.Subscript a b pos) rc Φ := by
  intro σ G H W Q q
  refine ⟨_, fun i => pe_ix (wIx.ix i) (WE.pe i) (WE.pe i) hs, ?_⟩
  refine h σ G H W _ fun x O1 v G1 H1 h1 W1 e1 r1 => ?_
  refine h1 σ G1 H1 W1 _ fun y O2 w G2 H2 h2 W2 e2 r2 => ?_
  exact h2 σ G2 H2 v w W2 (ra.mono e2 r1) r2 Q fun z O' u G' H' k W' e' r' => q z O' u G' H' k W' ((e1.trans e2).trans e') r'
end
end Sk


set_option Elab.async false
set_option linter.all false
set_option maxRecDepth 100000
set_option maxHeartbeats 4100000
/-! Sk3: operators on typed data, statements, loops, comprehensions, promises of defs. -/
namespace Sk
open PySem L2 Evl

/-! ### bounds of rgI, by their bits -/
class Bd (k : outParam Nat) (x : Int) : Prop where
  lt : x.natAbs < 2 ^ k
theorem two_le {a b : Nat} (h : a ≤ b) : 2 ^ a ≤ 2 ^ b := Nat.pow_le_pow_right (by decide) h
theorem bdAdd {a b : Nat} {x y : Int} (h1 : Bd a x) (h2 : Bd b y) : Bd (max a b + 1) (x + y) := ⟨by
  have p := two_le (Nat.le_max_left a b)
  have q := two_le (Nat.le_max_right a b)
  have r1 := h1.lt
  have r2 := h2.lt
  rw [Nat.pow_succ]
  omega⟩
theorem bdSub {a b : Nat} {x y : Int} (h1 : Bd a x) (h2 : Bd b y) : Bd (max a b + 1) (x - y) := ⟨by
  have p := two_le (Nat.le_max_left a b)
  have q := two_le (Nat.le_max_right a b)
  have r1 := h1.lt
  have r2 := h2.lt
  rw [Nat.pow_succ]
  omega⟩
instance (priority := low) {a b : Nat} {x y : Int} [h1 : Bd a x] [h2 : Bd b y] : Bd (max a b + 1) (x + y) := bdAdd h1 h2
instance (priority := low) {a b : Nat} {x y : Int} [h1 : Bd a x] [h2 : Bd b y] : Bd (max a b + 1) (x - y) := bdSub h1 h2
instance (priority := low) {a : Nat} {x : Int} [h1 : Bd a x] : Bd a (-x) := ⟨by rw [Int.natAbs_neg]; exact h1.lt⟩
instance (priority := low) {a b : Nat} {x y : Int} [h1 : Bd a x] [h2 : Bd b y] : Bd (a + b) (x * y) := ⟨wide_lt h1.lt h2.lt⟩
instance (priority := low) {a b : Nat} {x y : Int} {c : Prop} [Decidable c] [h1 : Bd a x] [h2 : Bd b y] : Bd (max a b) (if c then x else y) := ⟨by
  split
  · exact Nat.lt_of_lt_of_le h1.lt (two_le (Nat.le_max_left a b))
  · exact Nat.lt_of_lt_of_le h2.lt (two_le (Nat.le_max_right a b))⟩
instance (priority := low) {n : Nat} : Bd (Nat.log2 n + 1) (no_index (OfNat.ofNat n) : Int) := ⟨by
  have h : ((OfNat.ofNat n : Int)).natAbs = n := by rfl
  rw [h]
  exact Nat.lt_log2_self⟩
theorem Bd.of {k : Nat} {x : Int} (h1 : -(2 ^ k) < x) (h2 : x < 2 ^ k) : Bd k x := ⟨by
  have e : ((2 ^ k : Nat) : Int) = (2 : Int) ^ k := by simp
  have h3 : -((2 ^ k : Nat) : Int) < x := by rw [e]; exact h1
  have h4 : x < ((2 ^ k : Nat) : Int) := by rw [e]; exact h2
  omega⟩
theorem Bd.mono {j k : Nat} {x : Int} (h : Bd j x) (hk : j ≤ k) : Bd k x := ⟨Nat.lt_of_lt_of_le h.lt (two_le hk)⟩
theorem log2_le {k : Nat} {x : Int} (h : Bd k x) : x.natAbs.log2 ≤ k := by
  by_cases h0 : k = 0
  · subst h0
    have := h.lt
    have e : x.natAbs = 0 := by omega
    rw [e]
    decide
  · exact Nat.le_of_lt (PySem.Flt.log2_lt_of (by omega) h.lt)
theorem mulOk {a b : Nat} {x y : Int} [h1 : Bd a x] [h2 : Bd b y] (h : a + b ≤ 900000 := by decide) : CMulW x y := by
  have p := log2_le h1
  have q := log2_le h2
  unfold CMulW
  omega
theorem divOk {b : Nat} {x y : Int} [h2 : Bd b y] (hy : 0 < y) (h : b ≤ 8999 := by decide) : CDivW x y := ⟨hy, by
  have q := log2_le h2
  omega⟩

/-! ### operators -/
section
variable {ι : Type} {F : ι → Cx} {K : Fg} {B : Bs} {Γ : Gm} {O : List Own} {α β γ : Type} {ra : Rp α} {rb : Rp β} {rc : Rp γ}
section
variable {x y : Int} {Φ : Int → List Own → Prop} {Ψ : Bool → List Own → Prop}
theorem o_add (k : Φ (x + y) O) : OW F K B Γ O (binaryOp .Add) rInt rInt x y rInt Φ := fun σ G H v w W rv rw Q q => ⟨_, fun _ => op_add, x, y, rv, rw, q _ O _ G H k W (Ex.refl _) rfl⟩
theorem o_sub (k : Φ (x - y) O) : OW F K B Γ O (binaryOp .Sub) rInt rInt x y rInt Φ := fun σ G H v w W rv rw Q q => ⟨_, fun _ => op_sub, x, y, rv, rw, q _ O _ G H k W (Ex.refl _) rfl⟩
theorem o_mul (h : CMulW x y) (k : Φ (x * y) O) : OW F K B Γ O (binaryOp .Mult) rInt rInt x y rInt Φ := fun σ G H v w W rv rw Q q => ⟨_, fun _ => op_mulW, x, y, rv, rw, h, q _ O _ G H k W (Ex.refl _) rfl⟩
theorem o_div (h : CDivW x y) (k : Φ (x / y) O) : OW F K B Γ O (binaryOp .FloorDiv) rInt rInt x y rInt Φ := fun σ G H v w W rv rw Q q => ⟨_, fun _ => op_fdivW, x, y, rv, rw, h, q _ O _ G H k W (Ex.refl _) rfl⟩
theorem o_mod (h : 0 < y) (k : Φ (x % y) O) : OW F K B Γ O (binaryOp .Mod) rInt rInt x y rInt Φ := fun σ G H v w W rv rw Q q => ⟨_, fun _ => op_mod, x, y, rv, rw, h, q _ O _ G H k W (Ex.refl _) rfl⟩
theorem o_pow (h : 0 ≤ y ∧ y ≤ 1000000 ∧ x.natAbs < 2 ^ 64) (k : Φ (x ^ y.toNat) O) : OW F K B Γ O (binaryOp .Pow) rInt rInt x y rInt Φ := fun σ G H v w W rv rw Q q => ⟨_, fun _ => op_pow, x, y, rv, rw, h, q _ O _ G H k W (Ex.refl _) rfl⟩
theorem o_shr (h : 0 ≤ y) (k : Φ (x / 2 ^ y.toNat) O) : OW F K B Γ O (binaryOp .RShift) rInt rInt x y rInt Φ := fun σ G H v w W rv rw Q q => ⟨_, fun _ => op_shr, x, y, rv, rw, h, q _ O _ G H k W (Ex.refl _) rfl⟩
theorem o_xor (k : Φ (Builtin.bitXor x y) O) : OW F K B Γ O (binaryOp .BitXor) rInt rInt x y rInt Φ := fun σ G H v w W rv rw Q q => ⟨_, fun _ => op_xor, x, y, rv, rw, q _ O _ G H k W (Ex.refl _) rfl⟩
theorem o_and (k : Φ (Builtin.bitAnd x y) O) : OW F K B Γ O (binaryOp .BitAnd) rInt rInt x y rInt Φ := fun σ G H v w W rv rw Q q => ⟨_, fun _ => op_and, x, y, rv, rw, q _ O _ G H k W (Ex.refl _) rfl⟩
theorem o_lt (k : Ψ (decide (x < y)) O) : OW F K B Γ O (compareOp .Lt) rInt rInt x y rBool Ψ := fun σ G H v w W rv rw Q q => ⟨_, fun _ => op_lt, x, y, rv, rw, q _ O _ G H k W (Ex.refl _) rfl⟩
theorem o_le (k : Ψ (decide (x ≤ y)) O) : OW F K B Γ O (compareOp .LtE) rInt rInt x y rBool Ψ := fun σ G H v w W rv rw Q q => ⟨_, fun _ => op_le, x, y, rv, rw, q _ O _ G H k W (Ex.refl _) rfl⟩
theorem o_gt (k : Ψ (decide (y < x)) O) : OW F K B Γ O (compareOp .Gt) rInt rInt x y rBool Ψ := fun σ G H v w W rv rw Q q => ⟨_, fun _ => op_gt, x, y, rv, rw, q _ O _ G H k W (Ex.refl _) rfl⟩
theorem o_ge (k : Ψ (decide (y ≤ x)) O) : OW F K B Γ O (compareOp .GtE) rInt rInt x y rBool Ψ := fun σ G H v w W rv rw Q q => ⟨_, fun _ => op_ge, x, y, rv, rw, q _ O _ G H k W (Ex.refl _) rfl⟩
theorem o_eqI (k : Ψ (decide (x = y)) O) : OW F K B Γ O (compareOp .Eq) rInt rInt x y rBool Ψ := fun σ G H v w W rv rw Q q => ⟨_, fun _ => op_eq, by
  rw [show v = V.int x from rv, show w = V.int y from rw]
  refine ⟨rfl, q _ O _ G H k W (Ex.refl _) ?_⟩
  show V.bl (decide (V.int x = V.int y)) = V.bl (decide (x = y))
  simp⟩
theorem o_neI (k : Ψ (!decide (x = y)) O) : OW F K B Γ O (compareOp .NotEq) rInt rInt x y rBool Ψ := fun σ G H v w W rv rw Q q => ⟨_, fun _ => op_ne, by
  rw [show v = V.int x from rv, show w = V.int y from rw]
  refine ⟨rfl, q _ O _ G H k W (Ex.refl _) ?_⟩
  show V.bl (!decide (V.int x = V.int y)) = V.bl (!decide (x = y))
  simp⟩
theorem u_neg (k : Φ (-x) O) : UW F K B Γ O (unaryOp .USub) rInt x rInt Φ := fun σ G H v W rv Q q => ⟨_, fun _ => un_neg, x, rv, q _ O _ G H k W (Ex.refl _) rfl⟩
end
theorem o_eqB {x y : Bool} {Ψ : Bool → List Own → Prop} (k : Ψ (decide (x = y)) O) : OW F K B Γ O (compareOp .Eq) rBool rBool x y rBool Ψ := fun σ G H v w W rv rw Q q => ⟨_, fun _ => op_eq, by
  rw [show v = V.bl x from rv, show w = V.bl y from rw]
  refine ⟨rfl, q _ O _ G H k W (Ex.refl _) ?_⟩
  show V.bl (decide (V.bl x = V.bl y)) = V.bl (decide (x = y))
  simp⟩
theorem o_neB {x y : Bool} {Ψ : Bool → List Own → Prop} (k : Ψ (!decide (x = y)) O) : OW F K B Γ O (compareOp .NotEq) rBool rBool x y rBool Ψ := fun σ G H v w W rv rw Q q => ⟨_, fun _ => op_ne, by
  rw [show v = V.bl x from rv, show w = V.bl y from rw]
  refine ⟨rfl, q _ O _ G H k W (Ex.refl _) ?_⟩
  show V.bl (!decide (V.bl x = V.bl y)) = V.bl (!decide (x = y))
  simp⟩
theorem o_eqS {x y : Str} {Ψ : Bool → List Own → Prop} (k : Ψ (decide (x = y)) O) : OW F K B Γ O (compareOp .Eq) rStr rStr x y rBool Ψ := fun σ G H v w W rv rw Q q => ⟨_, fun _ => op_eq, by
  rw [show v = V.str x from rv, show w = V.str y from rw]
  refine ⟨rfl, q _ O _ G H k W (Ex.refl _) ?_⟩
  show V.bl (decide (V.str x = V.str y)) = V.bl (decide (x = y))
  simp⟩
theorem o_neS {x y : Str} {Ψ : Bool → List Own → Prop} (k : Ψ (!decide (x = y)) O) : OW F K B Γ O (compareOp .NotEq) rStr rStr x y rBool Ψ := fun σ G H v w W rv rw Q q => ⟨_, fun _ => op_ne, by
  rw [show v = V.str x from rv, show w = V.str y from rw]
  refine ⟨rfl, q _ O _ G H k W (Ex.refl _) ?_⟩
  show V.bl (!decide (V.str x = V.str y)) = V.bl (!decide (x = y))
  simp⟩
theorem dec_none {α : Type} {r : Rp α} {K : Fg} {G : Hp} {v : V} {x : Option α} (h : (rOpt r).rep K G v x) : decide (v = V.non) = x.isNone := by
  cases x with
  | none =>
    rw [show v = V.non from h]
    rfl
  | some y =>
    rw [decide_eq_false h.1]
    rfl
theorem o_isN {x : Option α} {u : Unit} {Ψ : Bool → List Own → Prop} (k : Ψ x.isNone O) : OW F K B Γ O (compareOp .Is) (rOpt ra) rNon x u rBool Ψ := fun σ G H v w W rv rw Q q => ⟨_, fun _ => op_isN, rw, q _ O _ G H k W (Ex.refl _) (by
  show V.bl (decide (v = V.non)) = V.bl x.isNone
  rw [dec_none rv])⟩
theorem o_notN {x : Option α} {u : Unit} {Ψ : Bool → List Own → Prop} (k : Ψ (!x.isNone) O) : OW F K B Γ O (compareOp .IsNot) (rOpt ra) rNon x u rBool Ψ := fun σ G H v w W rv rw Q q => ⟨_, fun _ => op_notN, rw, q _ O _ G H k W (Ex.refl _) (by
  show V.bl (!decide (v = V.non)) = V.bl (!x.isNone)
  rw [dec_none rv])⟩

/-! ### items -/
theorem atI_ok {n : Nat} {i : Int} (h0 : 0 ≤ i) (h1 : i < n) : ixN n i = some i.toNat := by
  unfold ixN
  rw [if_pos h0, if_pos h1]
theorem i_lst {xs : List α} {i : Int} {x : α} {Φ : α → List Own → Prop} (h : atI xs i = some x) (k : Φ x O) (hK : ∀ j, (F j).K = K := by intro _; rfl) : IW F K B Γ O (rLst ra) rInt xs i ra Φ := by
  intro σ G H v w W rv rw Q q
  obtain ⟨a, vs, h1, h2, h3⟩ := rv
  unfold atI at h
  obtain ⟨j, h4, h5⟩ := Option.bind_eq_some_iff.mp h
  obtain ⟨u, h6, h7⟩ := h3.get' h5
  refine ⟨rIxL K, fun j => by rw [← hK j]; exact ix_list, a, vs, i, u, h1, rw, SqL.of (W.sub _ _ h2), ?_, q x O u G H k W (Ex.refl _) h7⟩
  unfold atI
  rw [h3.length, h4]
  exact h6
theorem i_seq {xs : List α} {i : Int} {x : α} {Φ : α → List Own → Prop} (h : atI xs i = some x) (k : Φ x O) (hK : ∀ j, (F j).K = K := by intro _; rfl) : IW F K B Γ O (rSeq ra) rInt xs i ra Φ := by
  intro σ G H v w W rv rw Q q
  obtain ⟨a, vs, h1, h2, h3⟩ := rv
  unfold atI at h
  obtain ⟨j, h4, h5⟩ := Option.bind_eq_some_iff.mp h
  obtain ⟨u, h6, h7⟩ := h3.get' h5
  refine ⟨rIxL K, fun j => by rw [← hK j]; exact ix_list, a, vs, i, u, h1, rw, ex_l W.sub h2, ?_, q x O u G H k W (Ex.refl _) h7⟩
  unfold atI
  rw [h3.length, h4]
  exact h6
theorem i_tpv {xs : List α} {i : Int} {x : α} {Φ : α → List Own → Prop} (h : atI xs i = some x) (k : Φ x O) (hK : ∀ j, (F j).K = K := by intro _; rfl) : IW F K B Γ O (rTpv ra) rInt xs i ra Φ := by
  intro σ G H v w W rv rw Q q
  obtain ⟨a, vs, h1, h2, h3⟩ := rv
  unfold atI at h
  obtain ⟨j, h4, h5⟩ := Option.bind_eq_some_iff.mp h
  obtain ⟨u, h6, h7⟩ := h3.get' h5
  refine ⟨rIxT K, fun j => by rw [← hK j]; exact ix_tup, a, vs, i, u, h1, rw, ex_t W.sub h2, ?_, q x O u G H k W (Ex.refl _) h7⟩
  unfold atI
  rw [h3.length, h4]
  exact h6
/-- the i-th of unlike things -/
class FAt {α : Type} (f : RpF α) (i : Nat) {β : outParam Type} (r : outParam (Rp β)) (g : outParam (α → β)) : Prop where
  get : ∀ {K : Fg} {G : Hp} {vs : List V} {x : α}, f.rep K G vs x → ∃ v, vs[i]? = some v ∧ r.rep K G v (g x)
instance fat1 {r : Rp α} : FAt (fOne r) 0 r (fun x => x) := ⟨fun ⟨v, h, k⟩ => ⟨v, by rw [h]; rfl, k⟩⟩
instance fat0 {r : Rp α} {f : RpF β} : FAt (fCons r f) 0 r (fun x => x.1) := ⟨fun ⟨v, ws, h, k, _⟩ => ⟨v, by rw [h]; rfl, k⟩⟩
instance fatS {r : Rp α} {f : RpF β} {i : Nat} {r' : Rp γ} {g : β → γ} [h : FAt f i r' g] : FAt (fCons r f) (i + 1) r' (fun x => g x.2) := ⟨fun ⟨v, ws, e, _, k⟩ => let ⟨u, h1, h2⟩ := h.get k; ⟨u, by rw [e]; simpa using h1, h2⟩⟩
theorem i_tup {f : RpF α} {x : α} (i : Nat) {r : Rp β} {g : α → β} [hf : FAt f i r g] {Φ : β → List Own → Prop} (k : Φ (g x) O) (hK : ∀ j, (F j).K = K := by intro _; rfl) : IW F K B Γ O (rTup f) rInt x ((OfNat.ofNat i : Nat) : Int) r Φ := by
  intro σ G H v w W rv rw Q q
  obtain ⟨a, vs, h1, h2, h3⟩ := rv
  obtain ⟨u, h4, h5⟩ := hf.get h3
  exact ⟨rIxT K, fun j => by rw [← hK j]; exact ix_tup, a, vs, (i : Int), u, h1, rw, ex_t W.sub h2, atI_nat h4, q _ O u G H k W (Ex.refl _) h5⟩

/-! ### built-in functions -/
theorem c_abs {x : Int} {Φ : Int → List Own → Prop} (k : Φ (if x < 0 then -x else x) O) : CW F K B Γ O (.builtin "abs") (fOne rInt) x rInt Φ := fun σ G H vs W ⟨v, e, rv⟩ Q q => ⟨_, fun _ => call_abs, x, by rw [e, show v = V.int x from rv], q _ O _ G H k W (Ex.refl _) rfl⟩
theorem c_int {x : Int} {Φ : Int → List Own → Prop} (k : Φ x O) : CW F K B Γ O (.type "int") (fOne rInt) x rInt Φ := fun σ G H vs W ⟨v, e, rv⟩ Q q => ⟨_, fun _ => call_int1, .inl ⟨x, by rw [e, show v = V.int x from rv], q _ O _ G H k W (Ex.refl _) rfl⟩⟩
theorem c_intB {x : Bool} {Φ : Int → List Own → Prop} (k : Φ (if x then 1 else 0) O) : CW F K B Γ O (.type "int") (fOne rBool) x rInt Φ := fun σ G H vs W ⟨v, e, rv⟩ Q q => ⟨_, fun _ => call_int1, .inr ⟨x, by rw [e, show v = V.bl x from rv], q _ O _ G H k W (Ex.refl _) rfl⟩⟩
theorem c_max2 {x : Int × Int} {Φ : Int → List Own → Prop} (k : Φ (if x.2 > x.1 then x.2 else x.1) O) (hc : ∀ j, (F j).calm = true := by intro _; rfl) : CW F K B Γ O (.builtin "max") (fCons rInt (fOne rInt)) x rInt Φ :=
  fun σ G H vs W ⟨v, ws, e, rv, u, e2, ru⟩ Q q => ⟨_, fun j => call_max2 (hc j), x.1, x.2, by rw [e, e2, show v = V.int x.1 from rv, show u = V.int x.2 from ru], q _ O _ G H k W (Ex.refl _) rfl⟩
theorem c_min2 {x : Int × Int} {Φ : Int → List Own → Prop} (k : Φ (if x.2 < x.1 then x.2 else x.1) O) (hc : ∀ j, (F j).calm = true := by intro _; rfl) : CW F K B Γ O (.builtin "min") (fCons rInt (fOne rInt)) x rInt Φ :=
  fun σ G H vs W ⟨v, ws, e, rv, u, e2, ru⟩ Q q => ⟨_, fun j => call_min2 (hc j), x.1, x.2, by rw [e, e2, show v = V.int x.1 from rv, show u = V.int x.2 from ru], q _ O _ G H k W (Ex.refl _) rfl⟩
theorem c_lenL {xs : List α} {Φ : Int → List Own → Prop} (k : Φ (xs.length : Int) O) (hK : ∀ j, (F j).K = K := by intro _; rfl) : CW F K B Γ O (.builtin "len") (fOne (rLst ra)) xs rInt Φ :=
  fun σ G H vs W ⟨v, e, a, ws, h1, h2, h3⟩ Q q => ⟨fun xs H Q => ∃ p ys, xs = [.ref p] ∧ (SqL K H p ys ∨ SqT K H p ys) ∧ Q (.int ys.length) H, fun j => by rw [← hK j]; exact call_len_seq, a, ws, by rw [e, h1], .inl (SqL.of (W.sub _ _ h2)), q _ O _ G H k W (Ex.refl _) (by rw [h3.length]; rfl)⟩
theorem c_lenS {xs : List α} {Φ : Int → List Own → Prop} (k : Φ (xs.length : Int) O) (hK : ∀ j, (F j).K = K := by intro _; rfl) : CW F K B Γ O (.builtin "len") (fOne (rSeq ra)) xs rInt Φ :=
  fun σ G H vs W ⟨v, e, a, ws, h1, h2, h3⟩ Q q => ⟨fun xs H Q => ∃ p ys, xs = [.ref p] ∧ (SqL K H p ys ∨ SqT K H p ys) ∧ Q (.int ys.length) H, fun j => by rw [← hK j]; exact call_len_seq, a, ws, by rw [e, h1], .inl (ex_l W.sub h2), q _ O _ G H k W (Ex.refl _) (by rw [h3.length]; rfl)⟩
theorem c_lenT {xs : List α} {Φ : Int → List Own → Prop} (k : Φ (xs.length : Int) O) (hK : ∀ j, (F j).K = K := by intro _; rfl) : CW F K B Γ O (.builtin "len") (fOne (rTpv ra)) xs rInt Φ :=
  fun σ G H vs W ⟨v, e, a, ws, h1, h2, h3⟩ Q q => ⟨fun xs H Q => ∃ p ys, xs = [.ref p] ∧ (SqL K H p ys ∨ SqT K H p ys) ∧ Q (.int ys.length) H, fun j => by rw [← hK j]; exact call_len_seq, a, ws, by rw [e, h1], .inr (ex_t W.sub h2), q _ O _ G H k W (Ex.refl _) (by rw [h3.length]; rfl)⟩
/-- what isinstance asks of a thing: its built-in type -/
class Kind (r : Rp α) (t : outParam String) : Prop where
  ty : ∀ {K : Fg} {G H : Hp} {v : V} {x : α}, Ex G H → r.rep K G v x → TyX K H v (.type t)
instance : Kind rInt "int" := ⟨fun _ h => by rw [show _ = V.int _ from h]; exact .base (.int _)⟩
instance : Kind rBool "bool" := ⟨fun _ h => by rw [show _ = V.bl _ from h]; exact .base (.bl _)⟩
instance : Kind rStr "str" := ⟨fun _ h => by rw [show _ = V.str _ from h]; exact .base (.str _)⟩
instance {r : Rp α} : Kind (rLst r) "list" := ⟨fun e ⟨a, vs, h1, h2, _⟩ => by rw [h1]; exact .base (.lst (e _ _ h2))⟩
theorem tyx_tup {K : Fg} {H : Hp} {a : Addr} {vs : List V} (h : SqT K H a vs) : TyX K H (.ref a) (.type "tuple") := by
  rcases h with (h | ⟨o, h⟩) | ⟨o, its, n, h1, h2, _⟩
  · exact .base (.tup h)
  · exact .fTuple h
  · exact .kTuple h1 h2
instance {r : Rp α} : Kind (rTpv r) "tuple" := ⟨fun e ⟨a, vs, h1, h2, _⟩ => by rw [h1]; exact tyx_tup (ex_t e h2)⟩
instance {f : RpF α} : Kind (rTup f) "tuple" := ⟨fun e ⟨a, vs, h1, h2, _⟩ => by rw [h1]; exact tyx_tup (ex_t e h2)⟩
theorem c_isi {r : Rp α} {t : String} [hk : Kind r t] {x : α × String} {b : Bool} {Φ : Bool → List Own → Prop} (hb : PySem.W.kitOne K (.type t) (.type x.2) = some b) (k : Φ b O) (hK : ∀ j, (F j).K = K := by intro _; rfl) :
    CW F K B Γ O (.builtin "isinstance") (fCons r (fOne rTy)) x rBool Φ :=
  fun σ G H vs W ⟨v, ws, e, rv, u, e2, ru⟩ Q q => ⟨rIsi K, fun j => by rw [← hK j]; exact call_isi, v, .ty x.2, .type t, .type x.2, b, by rw [e, e2, show u = V.ty x.2 from ru], .ty _, hk.ty W.sub rv, hb, q b O _ G H k W (Ex.refl _) rfl⟩
end

/-- the env with the i-th slot set -/
class SetG (Γ : Gm) (i : Nat) (f : outParam (Option Slot → Gm)) : Prop where
  eq : ∀ s, f s = Γ.set i s
instance setG0 {Γ : Gm} {g : Option Slot} : SetG (g :: Γ) 0 (fun s => s :: Γ) := ⟨fun _ => rfl⟩
instance setGS {Γ : Gm} {g : Option Slot} {i : Nat} {f : Option Slot → Gm} [h : SetG Γ i f] : SetG (g :: Γ) (i + 1) (fun s => g :: f s) := ⟨fun s => by rw [h.eq]; rfl⟩
theorem wipe_at {σ : St} : ∀ {vs : List Nat} {j : Nat}, (wipe σ vs)[j]? = if j ∈ vs then (if j < σ.length then some none else none) else σ[j]?
  | [], j => by simp [wipe]
  | v :: vs, j => by
    unfold wipe
    by_cases h : v = j
    · subst h
      by_cases hl : v < σ.length
      · rw [List.getElem?_set_self (by rw [wipe_length]; exact hl)]
        simp [hl]
      · rw [List.getElem?_eq_none (by rw [List.length_set, wipe_length]; omega)]
        simp [hl]
    · rw [List.getElem?_set_ne h, wipe_at]
      have e : (j ∈ v :: vs) ↔ (j ∈ vs) := by
        rw [List.mem_cons]
        exact ⟨fun q => q.elim (fun z => (h z.symm).elim) id, Or.inr⟩
      by_cases hj : j ∈ vs
      · rw [if_pos hj, if_pos (e.mpr hj)]
      · rw [if_neg hj, if_neg fun z => hj (e.mp z)]
theorem wipe_set {σ : St} {i : Nat} {u : Option V} {vs : List Nat} (h : i ∈ vs) : wipe (σ.set i u) vs = wipe σ vs := by
  refine List.ext_getElem? fun (j : Nat) => ?_
  rw [wipe_at, wipe_at, List.length_set]
  by_cases hj : j ∈ vs
  · rw [if_pos hj, if_pos hj]
  · rw [if_neg hj, if_neg hj, List.getElem?_set_ne (show i ≠ j from fun z => hj (by rw [← z]; exact h))]
/-! ### statements -/
def DS (X : Cx) (K : Fg) (B : Bs) (Γ : Gm) (O : List Own) (sts : List Stmt) (D : Ends) : Prop := ∀ σ G H, Ws K B Γ O σ G H → WSs X sts D σ H
def RT (K : Fg) (B : Bs) (Γ : Gm) (O : List Own) {α : Type} (r : Rp α) (x : α) (D : Ends) : Prop := ∀ v σ G H, Ws K B Γ O σ G H → r.rep K G v x → D.rt v H
abbrev Us (X : Cx) : Unit → Cx := fun _ => X
section
variable {X : Cx} {K : Fg} {B : Bs} {Γ Γ' : Gm} {O O' : List Own} {α β : Type} {ra : Rp α} {D D0 : Ends} {e c : Expr} {rest sa sb : List Stmt} {n : Str} {pos p : Pos}
variable {P : Program} {w : World} {mg : Str → Option Value} {base : Heap} {k : Nat}
theorem s_wk (h : Wk Γ Γ') (q : DS X K B Γ' O rest D) : DS X K B Γ O rest D := fun σ G H W => q σ G H (W.wk h)
/-- the own objects in another order, some dropped -/
theorem s_own (q : DS X K B Γ O' rest D) (hs : ∀ w ∈ O', w ∈ O) (hn : (O.map (·.a)).Nodup → (O'.map (·.a)).Nodup) : DS X K B Γ O rest D := fun σ G H W => q σ G H (W.perm hs hn)
theorem s_nil (h : ∀ σ G H, Ws K B Γ O σ G H → D.nx σ H) : DS X K B Γ O [] D := fun σ G H W => WSs.nil (h σ G H W)
/-- out of a branch -/
theorem s_out (h : DS X K B Γ O rest D0) : DS X K B Γ O [] { D0 with nx := WSs X rest D0 } := fun σ G H W => WSs.nil (h σ G H W)
theorem s_set [fam : Fam (Us X) P w K mg base k] (i : Nat) {f : Option Slot → Gm} [hg : SetG Γ i f] (h : DW (Us X) K B Γ O e ra fun x O' => DS X K B (f (some ⟨ra, x⟩)) O' rest D) (hi : X.N[i]? = some n := by rfl)
    (hx : Loc X.env.scope n := by first | exact Or.inl rfl | exact Or.inr rfl) (hs : swapsWith e (some (.Name n p)) pos.line X.env = pure false := by rfl) (hf : X.fn n = true ∨ X.env.scope.names.lookup n = some .local := by first | exact .inr rfl | exact .inl rfl) :
    DS X K B Γ O (.Assign [.Name n p] e pos :: rest) D := by
  intro σ G H W
  refine WSs.cons (ps_set (te := WE (Us X) e) (fam.nd ()) hi hx (WE.pe (F := Us X) ()) hs hf) ?_
  exact h σ G H W _ fun x O' v G' H' k W' _ r => k _ G' H' (by rw [hg.eq]; exact W'.set i r)
theorem s_if (h : DT (Us X) K B Γ O c fun b O' => (b = true → DS X K B Γ O' sa { D with nx := WSs X rest D }) ∧ (b = false → DS X K B Γ O' sb { D with nx := WSs X rest D })) : DS X K B Γ O (.If c sa sb pos :: rest) D := by
  intro σ G H W
  refine WSs.cons (ps_if (tc := WT (Us X) c) (WT.pt (F := Us X) ()) WSs.pss WSs.pss) ?_
  refine h σ G H W _ fun b O' G' H' k W' _ => ?_
  cases b with
  | true => exact k.1 rfl σ G' H' W'
  | false => exact k.2 rfl σ G' H' W'
theorem s_ret (h : DW (Us X) K B Γ O e ra fun x O' => RT K B Γ O' ra x D) : DS X K B Γ O (.Return (some e) pos :: rest) D := by
  intro σ G H W
  refine WSs.cons (ps_ret (te := WE (Us X) e) (WE.pe (F := Us X) ())) ?_
  exact h σ G H W _ fun x O' v G' H' k W' _ r => k v σ G' H' W' r
theorem s_retN (h : RT K B Γ O rNon () D) : DS X K B Γ O (.Return none pos :: rest) D := fun σ G H W => WSs.cons ps_retN (h _ σ G H W rfl)
theorem s_expr (h : DW (Us X) K B Γ O e ra fun _ O' => DS X K B Γ O' rest D) (hs : swapsWith e none pos.line X.env = pure false := by rfl) : DS X K B Γ O (.Expr e pos :: rest) D := by
  intro σ G H W
  refine WSs.cons (ps_expr (te := WE (Us X) e) (WE.pe (F := Us X) ()) hs) ?_
  exact h σ G H W _ fun x O' v G' H' k W' _ r => k _ G' H' W'
theorem s_pass (h : DS X K B Γ O rest D) : DS X K B Γ O (.Pass pos :: rest) D := fun σ G H W => WSs.cons ps_pass (h σ G H W)
theorem s_brk (h : ∀ σ G H, Ws K B Γ O σ G H → D.bk σ H) : DS X K B Γ O (.Break pos :: rest) D := fun σ G H W => WSs.cons ps_break (h σ G H W)
theorem s_cont (h : ∀ σ G H, Ws K B Γ O σ G H → D.ct σ H) : DS X K B Γ O (.Continue pos :: rest) D := fun σ G H W => WSs.cons ps_continue (h σ G H W)

/-! targets -/
def DG {ι : Type} (F : ι → Cx) (K : Fg) (B : Bs) (Γ : Gm) (O : List Own) (e : Expr) {α : Type} (r : Rp α) (x : α) (js : List Nat) (Φ : Gm → Prop) : Prop :=
  ∀ σ G H v, Ws K B Γ O σ G H → r.rep K G v x → ∀ Q : St → Hp → Prop, (∀ Γ' σ', Φ Γ' → Ws K B Γ' O σ' G H → (∀ vs : List Nat, (∀ j ∈ js, j ∈ vs) → wipe σ' vs = wipe σ vs) → Q σ' H) → WG F e v σ H Q
def DGs {ι : Type} (F : ι → Cx) (K : Fg) (B : Bs) (Γ : Gm) (O : List Own) (es : List Expr) {α : Type} (f : RpF α) (x : α) (js : List Nat) (Φ : Gm → Prop) : Prop :=
  ∀ σ G H vs, Ws K B Γ O σ G H → f.rep K G vs x → ∀ Q : St → Hp → Prop, (∀ Γ' σ', Φ Γ' → Ws K B Γ' O σ' G H → (∀ vs : List Nat, (∀ j ∈ js, j ∈ vs) → wipe σ' vs = wipe σ vs) → Q σ' H) → WGs F es vs σ H Q
section
variable {ι : Type} {F : ι → Cx}
theorem g_name [fam : Fam F P w K mg base k] (i : Nat) {f : Option Slot → Gm} [hg : SetG Γ i f] {x : α} {Φ : Gm → Prop} (q : Φ (f (some ⟨ra, x⟩))) (hi : ∀ j, (F j).N[i]? = some n := by intro _; rfl)
    (hx : ∀ j, Loc (F j).env.scope n := by intro _; first | exact Or.inl rfl | exact Or.inr rfl)
    (hf : ∀ j, (F j).fn n = true ∨ (F j).env.scope.names.lookup n = some .local := by intro _; first | exact .inr rfl | exact .inl rfl) : DG F K B Γ O (.Name n pos) ra x [i] Φ :=
  fun σ G H v W r Q k => ⟨_, fun j => pg_name (fam.nd j) (hi j) (hx j) (hf j), k _ _ q (by rw [hg.eq]; exact W.set i r) fun vs hv => wipe_set (hv i (by simp))⟩
theorem gs_one {js : List Nat} {x : α} {Φ : Gm → Prop} (h : DG F K B Γ O e ra x js Φ) (hs : ∀ j, (assignEach [e] (F j).env).map (·.2) = assign e (F j).env :: (assignEach [] (F j).env).map (·.2) := by intro _; rfl) : DGs F K B Γ O [e] (fOne ra) x js Φ := by
  intro σ G H vs W ⟨v, e1, r⟩ Q k
  exact ⟨_, fun j => pgs_cons (WG.pg j) pgs_nil (hs j), v, [], e1, h σ G H v W r _ fun Γ' σ' q W' hw => ⟨rfl, k Γ' σ' q W' hw⟩⟩
theorem gs_cons {js ks : List Nat} {es : List Expr} {f : RpF β} {x : α × β} {Φ : Gm → Prop} (h : DG F K B Γ O e ra x.1 js fun Γ1 => DGs F K B Γ1 O es f x.2 ks Φ)
    (hs : ∀ j, (assignEach (e :: es) (F j).env).map (·.2) = assign e (F j).env :: (assignEach es (F j).env).map (·.2) := by intro _; rfl) : DGs F K B Γ O (e :: es) (fCons ra f) x (js ++ ks) Φ := by
  intro σ G H vs W ⟨v, ws, e1, r, rf⟩ Q k
  exact ⟨_, fun j => pgs_cons (WG.pg j) (WGs.pgs j) (hs j), v, ws, e1, h σ G H v W r _ fun Γ' σ' q W' hw => q σ' G H ws W' rf Q fun Γ2 σ2 q2 W2 hw2 => k Γ2 σ2 q2 W2 fun vs hv =>
    (hw2 vs fun j hj => hv j (List.mem_append_right _ hj)).trans (hw vs fun j hj => hv j (List.mem_append_left _ hj))⟩
theorem g_tup [fam : Fam F P w K mg base k] {js : List Nat} {es : List Expr} {f : RpF α} {j m : Nat} [hl : Len f m] {x : α} {Φ : Gm → Prop} (h : DGs F K B Γ O es f x js Φ)
    (hn : ∀ j, (assignEach es (F j).env).length = m := by intro _; rfl) (hst : ∀ j, (assignEach es (F j).env).findIdx? (·.1) = none := by intro _; rfl) : DG F K B Γ O (.Tuple es j pos) (rTup f) x js Φ := by
  intro σ G H v W ⟨a, vs, e1, h1, h2⟩ Q q
  refine ⟨gTup K m (WGs F es), fun i => ?_, a, vs, e1, ex_t W.sub h1, hl.len h2, h σ G H vs W h2 Q q⟩
  have p := pg_tup (X := F i) (pos := pos) (k := j) (fam.cm i) (WGs.pgs i) (hn i) (hst i)
  rw [fam.ka i] at p
  exact p
end
/-- target = e -/
theorem s_asg {tg : Expr} {js : List Nat} (h : DW (Us X) K B Γ O e ra fun x O' => DG (Us X) K B Γ O' tg ra x js fun Γ' => DS X K B Γ' O' rest D) (hs : swapsWithSole [tg] e pos.line X.env = pure false := by rfl) (hw : swappedStores [tg] e X.env = pure none := by rfl)
    (h1 : (assignEach [tg] X.env).map (·.2) = [assign tg X.env] := by rfl) : DS X K B Γ O (.Assign [tg] e pos :: rest) D := by
  intro σ G H W
  refine WSs.cons (ps_asg (te := WE (Us X) e) (g := WG (Us X) tg) (WE.pe (F := Us X) ()) (WG.pg (F := Us X) ()) hs hw h1) ?_
  exact h σ G H W _ fun x O' v G' H' k W' _ r => k σ G' H' v W' r _ fun Γ' σ' q W2 _ => q σ' G' H' W2
/-- name op= e -/
theorem s_aug [fam : Fam (Us X) P w K mg base k] (i : Nat) {f : Int → Int → Int} {op : Operator} {x : Int} {fg : Option Slot → Gm} [hA : At Γ i rInt x] [hg : SetG Γ i fg] (ho : PIp X op (ipI f)) (h : DW (Us X) K B Γ O e rInt fun y O' => DS X K B (fg (some ⟨rInt, f x y⟩)) O' rest D)
    (hi : X.N[i]? = some n := by rfl) (hx : Loc X.env.scope n := by first | exact Or.inl rfl | exact Or.inr rfl) (hf : X.fn n = true ∨ X.env.scope.names.lookup n = some .local := by first | exact .inr rfl | exact .inl rfl) :
    DS X K B Γ O (.AugAssign (.Name n p) op e pos :: rest) D := by
  intro σ G H W
  obtain ⟨u, h1, h2⟩ := W.env.get hA.get
  refine WSs.cons (ps_aug (te := WE (Us X) e) (fam.nd ()) hi hx (WE.pe (F := Us X) ()) ho hf) ?_
  refine ⟨u, h1, h σ G H W _ fun y O' v G' H' k W' e' r => ⟨x, y, h2, r, k _ G' H' (by rw [hg.eq]; exact W'.set i rfl)⟩⟩
end

/-! ### what is walked -/
/-- the walked thing J gives the items xs, one by one, wherever Gb stands -/
structure Gives (K : Fg) (T : List Addr) (Gb : Hp) (J : It) {α : Type} (r : Rp α) (xs : List α) : Prop where
  go : ∀ i G H, i < xs.length → Ex Gb G → Ex G H → J.go i H
  stop : ∀ G H, Ex Gb G → Ex G H → J.stop xs.length H
  yld : ∀ i G H v H', i < xs.length → Ex Gb G → Ex G H → J.yld i H v H' → ∃ x G', xs[i]? = some x ∧ Stp T [] G H G' H' ∧ r.rep K G' v x
def DI {ι : Type} (F : ι → Cx) (K : Fg) (B : Bs) (Γ : Gm) (O : List Own) (tg e : Expr) {α : Type} (r : Rp α) (Φ : List α → List Own → Prop) : Prop :=
  ∀ σ G H, Ws K B Γ O σ G H → ∀ R : It → Hp → Prop, (∀ xs J O' G' H', Φ xs O' → Gives K B.T G' J r xs → Ws K B Γ O' σ G' H' → Ex G G' → R J H') → WI F tg e σ H R
section
variable {ι : Type} {F : ι → Cx} {K : Fg} {B : Bs} {Γ : Gm} {O : List Own} {α β γ : Type} {ra : Rp α} {rb : Rp β} {e a b tg : Expr} {n : Str} {p pos : Pos}
variable {P : Program} {w : World} {mg : Str → Option Value} {base : Heap} {k : Nat}
theorem Gives.list {T : List Addr} {Gb : Hp} {c : Addr} {vs : List V} {xs : List α} (h : SqL K Gb c vs) (r : All2 (ra.rep K Gb) vs xs) : Gives K T Gb (Itl K c) ra xs where
  go := fun i G H hi e1 e2 => by
    have hv : i < vs.length := by rw [r.length]; exact hi
    exact ⟨vs, vs[i], ex_l (e1.trans e2) h, List.getElem?_eq_getElem hv⟩
  stop := fun G H e1 e2 => ⟨vs, ex_l (e1.trans e2) h, by rw [r.length]; exact Nat.le_refl _⟩
  yld := fun i G H v H' hi e1 e2 ⟨h1, h2⟩ => by
    obtain ⟨x, hx, hr⟩ := r.get (h2 vs (ex_l (e1.trans e2) h))
    subst h1
    exact ⟨x, G, hx, Stp.refl e2, ra.mono e1 hr⟩
theorem Gives.tup {T : List Addr} {Gb : Hp} {c : Addr} {vs : List V} {xs : List α} (h : SqT K Gb c vs) (r : All2 (ra.rep K Gb) vs xs) : Gives K T Gb (Itt K c) ra xs where
  go := fun i G H hi e1 e2 => by
    have hv : i < vs.length := by rw [r.length]; exact hi
    exact ⟨vs, vs[i], ex_t (e1.trans e2) h, List.getElem?_eq_getElem hv⟩
  stop := fun G H e1 e2 => ⟨vs, ex_t (e1.trans e2) h, by rw [r.length]; exact Nat.le_refl _⟩
  yld := fun i G H v H' hi e1 e2 ⟨h1, h2⟩ => by
    obtain ⟨x, hx, hr⟩ := r.get (h2 vs (ex_t (e1.trans e2) h))
    subst h1
    exact ⟨x, G, hx, Stp.refl e2, ra.mono e1 hr⟩
/-- lo, lo + c, .. -/
def rgI (lo c : Int) (m : Nat) : List Int := (List.range m).map fun i : Nat => lo + (i : Int) * c
theorem rgI_len (lo c : Int) (m : Nat) : (rgI lo c m).length = m := by unfold rgI; rw [List.length_map, List.length_range]
theorem rgI_get {lo c : Int} {m i : Nat} (h : i < m) : (rgI lo c m)[i]? = some (lo + (i : Int) * c) := by
  unfold rgI
  rw [List.getElem?_map, List.getElem?_range h]
  rfl
theorem Gives.rng {T : List Addr} {Gb : Hp} (lo : Int) (m : Nat) : Gives K T Gb (Itr lo m) rInt (rgI lo 1 m) where
  go := fun i G H hi e1 e2 => by rw [rgI_len] at hi; exact hi
  stop := fun G H e1 e2 => by rw [rgI_len]; exact Nat.le_refl _
  yld := fun i G H v H' hi e1 e2 ⟨h1, h2⟩ => by
    rw [rgI_len] at hi
    subst h1
    exact ⟨_, G, rgI_get hi, Stp.refl e2, by rw [h2, Int.mul_one]; rfl⟩
theorem Gives.rngC {T : List Addr} {Gb : Hp} (lo c : Int) (m : Nat) : Gives K T Gb (Itc lo c m) rInt (rgI lo c m) where
  go := fun i G H hi e1 e2 => by rw [rgI_len] at hi; exact hi
  stop := fun G H e1 e2 => by rw [rgI_len]; exact Nat.le_refl _
  yld := fun i G H v H' hi e1 e2 ⟨h1, h2⟩ => by
    rw [rgI_len] at hi
    subst h1
    exact ⟨_, G, rgI_get hi, Stp.refl e2, by rw [h2]; rfl⟩
theorem w_lst [fam : Fam F P w K mg base k] {Φ : List α → List Own → Prop} (h : DW F K B Γ O e (rLst ra) Φ) : DI F K B Γ O tg e ra Φ := by
  intro σ G H W R q
  refine ⟨iList K (WE F e), fun i => by rw [← fam.ka i]; exact pi_list (WE.pe i), ?_⟩
  exact h σ G H W _ fun xs O' v G' H' k W' e' ⟨c, vs, h1, h2, h3⟩ => ⟨c, h1, ⟨vs, SqL.of (W'.sub _ _ h2)⟩, q xs _ O' G' H' k (Gives.list (SqL.of h2) h3) W' e'⟩
theorem w_seq [fam : Fam F P w K mg base k] {Φ : List α → List Own → Prop} (h : DW F K B Γ O e (rSeq ra) Φ) : DI F K B Γ O tg e ra Φ := by
  intro σ G H W R q
  refine ⟨iList K (WE F e), fun i => by rw [← fam.ka i]; exact pi_list (WE.pe i), ?_⟩
  exact h σ G H W _ fun xs O' v G' H' k W' e' ⟨c, vs, h1, h2, h3⟩ => ⟨c, h1, ⟨vs, ex_l W'.sub h2⟩, q xs _ O' G' H' k (Gives.list h2 h3) W' e'⟩
theorem w_tpv [fam : Fam F P w K mg base k] {Φ : List α → List Own → Prop} (h : DW F K B Γ O e (rTpv ra) Φ) : DI F K B Γ O tg e ra Φ := by
  intro σ G H W R q
  refine ⟨iTup K (WE F e), fun i => by rw [← fam.ka i]; exact pi_tup (WE.pe i), ?_⟩
  exact h σ G H W _ fun xs O' v G' H' k W' e' ⟨c, vs, h1, h2, h3⟩ => ⟨c, h1, ⟨vs, ex_t W'.sub h2⟩, q xs _ O' G' H' k (Gives.tup h2 h3) W' e'⟩
theorem w_rng1 [fam : Fam F P w K mg base k] {Φ : List Int → List Own → Prop} (hm : mg "range" = none) (h : DW F K B Γ O a rInt fun j O1 => (-(2 ^ 62) ≤ j ∧ j < 2 ^ 62) ∧ Φ (rgI 0 1 j.toNat) O1)
    (hg : ∀ i, Gl (F i) "range" := by intro _; rfl) (hs : ∀ i, starEach [a] (F i).env = [(false, eval a (F i).env)] := by intro _; rfl) : DI F K B Γ O tg (.Call (.Name "range" p) [a] [] pos) rInt Φ := by
  intro σ G H W R q
  refine ⟨iRng1 (tCons (WE F a) tNil), fun i => pi_range1 (hg i) (by rw [fam.mg i]; exact hm) (pa_cons (WE.pe i) pa_nil (hs i)) (hs i), ?_⟩
  refine h σ G H W _ fun j O' v G' H' k W' e' r => ⟨j, by rw [show v = V.int j from r], k.1.1, k.1.2, q _ _ O' G' H' k.2 (Gives.rng 0 j.toNat) W' e'⟩
theorem w_rng2 [fam : Fam F P w K mg base k] {Φ : List Int → List Own → Prop} (hm : mg "range" = none) (h : DW F K B Γ O a rInt fun i O1 => DW F K B Γ O1 b rInt fun j O2 => (-(2 ^ 62) ≤ i ∧ i < 2 ^ 62 ∧ -(2 ^ 62) ≤ j ∧ j < 2 ^ 62) ∧ Φ (rgI i 1 (j - i).toNat) O2)
    (hg : ∀ i, Gl (F i) "range" := by intro _; rfl) (hs : ∀ i, starEach [a, b] (F i).env = [(false, eval a (F i).env), (false, eval b (F i).env)] := by intro _; rfl) (hs2 : ∀ i, starEach [b] (F i).env = [(false, eval b (F i).env)] := by intro _; rfl) :
    DI F K B Γ O tg (.Call (.Name "range" p) [a, b] [] pos) rInt Φ := by
  intro σ G H W R q
  refine ⟨iRng2 (tCons (WE F a) (tCons (WE F b) tNil)), fun i => pi_range2 (hg i) (by rw [fam.mg i]; exact hm) (pa_cons (WE.pe i) (pa_cons (WE.pe i) pa_nil (hs2 i)) ?_) (hs i) (hs2 i), ?_⟩
  · rw [hs i, hs2 i]
  · refine h σ G H W _ fun i O1 v G1 H1 k1 W1 e1 r1 => ?_
    exact k1 σ G1 H1 W1 _ fun j O' u G' H' k W' e' r => ⟨i, j, by rw [show u = V.int j from r, show v = V.int i from r1], k.1, q _ _ O' G' H' k.2 (Gives.rng i (j - i).toNat) W' (e1.trans e')⟩
/-- reversed(range(a)) -/
theorem w_rev1 [fam : Fam F P w K mg base k] {p2 pos2 : Pos} {Φ : List Int → List Own → Prop} (hm : mg "range" = none) (hm2 : mg "reversed" = none) (h : DW F K B Γ O a rInt fun j O1 => (-(2 ^ 62) ≤ j ∧ j < 2 ^ 62) ∧ Φ (rgI ((j.toNat : Int) - 1) (-1) j.toNat) O1)
    (hg : ∀ i, Gl (F i) "range" := by intro _; rfl) (hg2 : ∀ i, Gl (F i) "reversed" := by intro _; rfl) (hs : ∀ i, starEach [a] (F i).env = (false, eval a (F i).env) :: starEach [] (F i).env := by intro _; rfl)
    (hs2 : ∀ i, starEach [.Call (.Name "range" p2) [a] [] pos2] (F i).env = (false, eval (.Call (.Name "range" p2) [a] [] pos2) (F i).env) :: starEach [] (F i).env := by intro _; rfl) :
    DI F K B Γ O tg (.Call (.Name "reversed" p) [.Call (.Name "range" p2) [a] [] pos2] [] pos) rInt Φ := by
  intro σ G H W R q
  refine ⟨_, fun i => pi_revR (hg2 i) (by rw [fam.mg i]; exact hm2) (prg_1 (hg i) (by rw [fam.mg i]; exact hm) (WE.pe i) (hs i)) (hs2 i), ?_⟩
  refine h σ G H W _ fun j O' v G' H' k W' e' r => ⟨j, r, by decide, by decide, k.1.1, k.1.2, ?_⟩
  have e1 : (j - 0).toNat = j.toNat := by rw [Int.sub_zero]
  have e2 : (0 : Int) + ((j.toNat : Nat) : Int) - 1 = (j.toNat : Int) - 1 := by rw [Int.zero_add]
  rw [e1, e2]
  exact q _ _ O' G' H' k.2 (Gives.rngC _ _ _) W' e'
end

/-! ### loops -/
section
variable {X : Cx} {K : Fg} {B : Bs} {Γ Γ' : Gm} {O O' : List Own} {α β : Type} {ra : Rp α} {D D0 : Ends} {e c tg iter : Expr} {rest body : List Stmt} {n : Str} {pos p : Pos}
variable {P : Program} {w : World} {mg : Str → Option Value} {base : Heap} {k : Nat}
/-- one more heap that stays told -/
abbrev Bs.push (B : Bs) (g : Hp) : Bs := { B with bs := g :: B.bs }
/-- what holds between two turns: d with P -/
def LpJ (K : Fg) (B : Bs) {δ : Type} (Pv : δ → Prop) (Γf : δ → Gm) (Of : δ → List Own) : St → Hp → Prop := fun σ H => ∃ d G, Pv d ∧ Ws K B (Γf d) (Of d) σ G H
def LpE (X : Cx) (K : Fg) (B : Bs) {δ : Type} (Pv : δ → Prop) (Γf : δ → Gm) (Of : δ → List Own) (rest : List Stmt) (D : Ends) : Ends :=
  { nx := LpJ K B Pv Γf Of, rt := D.rt, bk := WSs X rest D, ct := LpJ K B Pv Γf Of }
/-- the end of a turn -/
theorem s_next {δ : Type} {Pv : δ → Prop} {Γf : δ → Gm} {Of : δ → List Own} (d : δ) (h : Pv d) (hw : Wk Γ (Γf d)) (ho : O = Of d) : DS X K B Γ O [] (LpE X K B Pv Γf Of rest D) :=
  s_nil fun σ G H W => ⟨d, G, h, by rw [← ho]; exact W.wk hw⟩
theorem s_contL {δ : Type} {Pv : δ → Prop} {Γf : δ → Gm} {Of : δ → List Own} {r2 : List Stmt} (d : δ) (h : Pv d) (hw : Wk Γ (Γf d)) (ho : O = Of d) : DS X K B Γ O (.Continue pos :: r2) (LpE X K B Pv Γf Of rest D) :=
  s_cont fun σ G H W => ⟨d, G, h, by rw [← ho]; exact W.wk hw⟩
theorem s_brkL {g : Hp} {δ : Type} {Pv : δ → Prop} {Γf : δ → Gm} {Of : δ → List Own} {r2 : List Stmt} (h : DS X K B Γ O rest D) : DS X K (B.push g) Γ O (.Break pos :: r2) (LpE X K (B.push g) Pv Γf Of rest D) :=
  s_brk fun σ G H W => h σ G H W.unbase
theorem s_for [fam : Fam (Us X) P w K mg base k] {js : List Nat}
    (h : DI (Us X) K B Γ O tg iter ra fun xs O1 => ∃ (δ : Type) (Pv : Nat → δ → Prop) (Γf : δ → Gm) (Of : δ → List Own), (∃ d, Pv 0 d ∧ Wk Γ (Γf d) ∧ O1 = Of d) ∧
      (∀ g i x d, xs[i]? = some x → Pv i d → DG (Us X) K (B.push g) (Γf d) (Of d) tg ra x js fun Γ' => DS X K (B.push g) Γ' (Of d) body (LpE X K (B.push g) (Pv (i + 1)) Γf Of rest D)) ∧
      (∀ d, Pv xs.length d → DS X K B (Γf d) (Of d) rest D))
    (hp : PassesOwn (model X.prog X.w) X.A X.env X.xe := by exact PassesOwn.never) (hs : ∀ x, foldedSetIterable iter X.env x = pure x := by intro _; rfl) : DS X K B Γ O (.For tg iter body [] pos :: rest) D := by
  intro σ G H W
  refine WSs.cons (ps_for hp (fam.cm ()) (WI.pi (F := Us X) ()) (WG.pg (F := Us X) ()) (WSs.pss (X := X)) hs) ?_
  refine h σ G H W _ fun xs J O1 G1 H1 ⟨δ, Pv, Γf, Of, ⟨d0, p0, w0, o0⟩, hst, hd⟩ gv W1 _ => ?_
  refine ⟨fun i m σ H => m = xs.length - i ∧ i ≤ xs.length ∧ LpJ K (B.push G1) (Pv i) Γf Of σ H, ⟨xs.length, by simp, Nat.zero_le _, d0, G1, p0, ?_⟩, ?_⟩
  · rw [← o0]
    exact (W1.wk w0).base
  rintro i m σ2 H2 ⟨rfl, hi, d, G2, pd, W2⟩
  have eb : Ex G1 G2 := W2.bs G1 List.mem_cons_self
  by_cases hlt : i < xs.length
  · refine .inr ⟨gv.go i G2 H2 hlt eb W2.sub, LpJ K (B.push G1) (Pv (i + 1)) Γf Of, fun σ' H' j => ⟨xs.length - (i + 1), by omega, rfl, hlt, j⟩, fun v H3 y => ?_⟩
    obtain ⟨x, G3, hx, s3, r3⟩ := gv.yld i G2 H2 v H3 hlt eb W2.sub y
    exact hst G1 i x d hx pd σ2 G3 H3 v (W2.step s3) r3 _ fun Γ' σ' q W' _ => q σ' G3 H3 W'
  · obtain rfl : i = xs.length := by omega
    exact .inl ⟨gv.stop G2 H2 eb W2.sub, hd d pd σ2 G2 H2 W2.unbase⟩
theorem s_while {δ : Type} (Pv : δ → Prop) (μ : δ → Nat) (Γf : δ → Gm) (Of : δ → List Own) (d0 : δ) (p0 : Pv d0) (w0 : Wk Γ (Γf d0)) (o0 : O = Of d0)
    (h : ∀ d, Pv d → DT (Us X) K B (Γf d) (Of d) c fun b O' => (b = true → DS X K B (Γf d) O' body (LpE X K B (fun d' => Pv d' ∧ μ d' < μ d) Γf Of rest D)) ∧ (b = false → DS X K B (Γf d) O' rest D))
    (hp : PassesOwn (model X.prog X.w) X.A X.env X.xe := by exact PassesOwn.never) : DS X K B Γ O (.While c body [] pos :: rest) D := by
  intro σ G H W
  refine WSs.cons (ps_while hp (WT.pt (F := Us X) ()) (WSs.pss (X := X))) ?_
  refine ⟨fun m σ H => ∃ d G, m = μ d ∧ Pv d ∧ Ws K B (Γf d) (Of d) σ G H, ⟨μ d0, d0, G, rfl, p0, by rw [← o0]; exact W.wk w0⟩, ?_⟩
  rintro m σ2 H2 ⟨d, G2, rfl, pd, W2⟩
  refine h d pd σ2 G2 H2 W2 _ fun b O' G' H' k W' _ => ?_
  cases b with
  | true =>
    refine iteT ⟨LpJ K B (fun d' => Pv d' ∧ μ d' < μ d) Γf Of, fun σ' H' ⟨d', G', ⟨p', l⟩, W'⟩ => ⟨μ d', l, d', G', rfl, p', W'⟩, ?_⟩
    exact k.1 rfl σ2 G' H' W'
  | false => exact iteF (k.2 rfl σ2 G' H' W')
end
end Sk


set_option Elab.async false
set_option linter.all false
set_option maxRecDepth 100000
set_option maxHeartbeats 4100000
/-! Sk4: own objects that change, comprehensions, promises of defs, dicts by written keys. -/
namespace Sk
open PySem L2 Evl

/-! ### own objects -/
section
variable {K : Fg} {B : Bs} {Γ Γ' : Gm} {O O' : List Own} {σ : St} {G H G' H' : Hp}
theorem nd_idx {α : Type} {l : List α} (hN : l.Nodup) {i j : Nat} {x : α} (a : l[i]? = some x) (b : l[j]? = some x) : i = j := L2.nd_ix hN a b
/-- the j-th own object changes -/
theorem Ws.mutAt {α β : Type} {j : Nat} {p : Addr} {o : HO} {r : Ow α} {x : α} {r' : Ow β} {x' : β} (W : Ws K B Γ O σ G H) (hj : O[j]? = some ⟨p, r, x⟩) (h : r'.rep K G o x') : Ws K B Γ (O.set j ⟨p, r', x'⟩) σ G (upd H p o) := by
  obtain ⟨_, h3, h4, h5⟩ := W.own _ (List.mem_of_getElem? hj)
  have hl : j < O.length := (List.getElem?_eq_some_iff.mp hj).1
  have s : Stp B.T [p] G H G (upd H p o) := Stp.mut W.sub h3 h4
  have em : (O.set j ⟨p, r', x'⟩).map (·.a) = O.map (·.a) := by
    refine List.ext_getElem? fun i => ?_
    rw [List.getElem?_map (l := O.set j _), List.getElem?_map (l := O)]
    by_cases hi : j = i
    · subst hi
      rw [List.getElem?_set_self hl, hj]
      rfl
    · rw [List.getElem?_set_ne hi]
  refine ⟨W.st.trans s fun c hc => ?_, fun P hP => ⟨s.tab P hP (W.tab P hP).1, (W.tab P hP).2⟩, W.bs, W.env, fun w hw => ?_, by rw [em]; exact W.nd, W.mh⟩
  · have e : c = p := by simpa using hc
    subst e
    exact h5.symm
  · obtain ⟨i, hi⟩ := List.getElem?_of_mem hw
    by_cases hij : j = i
    · subst hij
      rw [List.getElem?_set_self hl] at hi
      have e := Option.some.inj hi
      subst e
      exact ⟨⟨o, upd_same, h⟩, h3, h4, h5⟩
    · rw [List.getElem?_set_ne hij] at hi
      obtain ⟨⟨u, g1, g2⟩, g3, g4, g5⟩ := W.own w (List.mem_of_getElem? hi)
      have ne : w.a ≠ p := fun e => hij (nd_idx W.nd (by rw [List.getElem?_map, hj]; rfl) (by rw [List.getElem?_map, hi, ← e]; rfl))
      exact ⟨⟨u, by rw [upd_ne ne]; exact g1, g2⟩, g3, g4, g5⟩
/-- where an own object stands among the others -/
class OwnAt (O : List Own) (p : Addr) {α : outParam Type} (r : outParam (Ow α)) (x : outParam α) (f : outParam (Own → List Own)) : Prop where
  at_ : ∃ j, O[j]? = some ⟨p, r, x⟩ ∧ ∀ w, f w = O.set j w
instance (priority := high) ownAt0 {O : List Own} {p : Addr} {α : Type} {r : Ow α} {x : α} : OwnAt (⟨p, r, x⟩ :: O) p r x (fun w => w :: O) := ⟨⟨0, rfl, fun _ => rfl⟩⟩
instance ownAtS {O : List Own} {v : Own} {p : Addr} {α : Type} {r : Ow α} {x : α} {f : Own → List Own} [h : OwnAt O p r x f] : OwnAt (v :: O) p r x (fun w => v :: f w) := ⟨by
  obtain ⟨j, h1, h2⟩ := h.at_
  exact ⟨j + 1, h1, fun w => by rw [h2]; rfl⟩⟩
theorem Ws.mutO {α β : Type} {p : Addr} {o : HO} {r : Ow α} {x : α} {r' : Ow β} {x' : β} {f : Own → List Own} [h : OwnAt O p r x f] (W : Ws K B Γ O σ G H) (hr : r'.rep K G o x') : Ws K B Γ (f ⟨p, r', x'⟩) σ G (upd H p o) := by
  obtain ⟨j, h1, h2⟩ := h.at_
  rw [h2]
  exact W.mutAt h1 hr
theorem Ws.ownO {α : Type} {p : Addr} {r : Ow α} {x : α} {f : Own → List Own} (h : OwnAt O p r x f) (W : Ws K B Γ O σ G H) : ∃ o, H p = some o ∧ r.rep K G o x := by
  obtain ⟨j, h1, h2⟩ := h.at_
  exact (W.own _ (List.mem_of_getElem? h1)).ob
/-- from here on it will not change -/
theorem Ws.frz {α : Type} {p : Addr} {r : Ow α} {x : α} (W : Ws K B Γ (⟨p, r, x⟩ :: O) σ G H) (hM : p ∉ B.M) : ∃ o, r.rep K G o x ∧ Ws K B Γ O σ (upd G p o) H ∧ Ex G (upd G p o) := by
  obtain ⟨⟨o, h1, h2⟩, h3, h4, h5⟩ := W.own _ List.mem_cons_self
  have h0 : B.H0 p = none := h5.resolve_right hM
  have e1 : Ex G (upd G p o) := Ex.new h3
  refine ⟨o, h2, ⟨⟨fun a u e => ?_, W.st.g.trans e1, W.st.h, W.st.th, fun a q q2 => ?_, W.st.tab⟩, fun P hP => ⟨(W.tab P hP).1, ?_⟩, fun g hg => (W.bs g hg).trans e1, W.env.mono e1, fun w hw => ?_, (List.nodup_cons.mp W.nd).2, W.mh⟩, e1⟩
  · by_cases q : a = p
    · subst q
      rw [upd_same] at e
      rw [← e]
      exact h1
    · rw [upd_ne q] at e
      exact W.sub a u e
  · by_cases q3 : a = p
    · rw [q3]
      exact h0
    · rw [upd_ne q3] at q2
      exact W.st.fr a q q2
  · rw [upd_ne (show P ≠ p from fun z => h4 (by rw [← z]; exact hP))]
    exact (W.tab P hP).2
  · obtain ⟨⟨u, g1, g2⟩, g3, g4, g5⟩ := W.own w (List.mem_cons_of_mem _ hw)
    have ne : w.a ≠ p := fun e => (List.nodup_cons.mp W.nd).1 (List.mem_map.mpr ⟨w, hw, e⟩)
    exact ⟨⟨u, g1, w.r.mono e1 g2⟩, by rw [upd_ne ne]; exact g3, g4, g5⟩
end

section
variable {ι : Type} {F : ι → Cx} {K : Fg} {B : Bs} {Γ : Gm} {O : List Own} {α β γ : Type} {ra : Rp α} {rb : Rp β} {e a b tg o : Expr} {es : List Expr} {n : Str} {p pos apos : Pos}
variable {P : Program} {w : World} {mg : Str → Option Value} {base : Heap} {k : Nat}
/-- len, an item, sum of an own list -/
theorem c_lenO {q : Addr} {xs : List α} {f : Own → List Own} [h : OwnAt O q (oLst ra) xs f] {Φ : Int → List Own → Prop} (k : Φ (xs.length : Int) O) (hK : ∀ j, (F j).K = K := by intro _; rfl) : CW F K B Γ O (.builtin "len") (fOne rAdr) q rInt Φ :=
  fun σ G H vs W ⟨v, e, h1⟩ Q q' => by
    obtain ⟨u, h2, ws, h3, h4⟩ := W.ownO h
    subst h3
    exact ⟨fun xs H Q => ∃ p ys, xs = [.ref p] ∧ (SqL K H p ys ∨ SqT K H p ys) ∧ Q (.int ys.length) H, fun j => by rw [← hK j]; exact call_len_seq, q, ws, by rw [e, show v = V.ref q from h1], .inl (SqL.of h2), q' _ O _ G H k W (Ex.refl _) (by rw [h4.length]; rfl)⟩
theorem i_lstO {q : Addr} {xs : List α} {i : Int} {x : α} {f : Own → List Own} [ho : OwnAt O q (oLst ra) xs f] {Φ : α → List Own → Prop} (h : atI xs i = some x) (k : Φ x O) (hK : ∀ j, (F j).K = K := by intro _; rfl) : IW F K B Γ O rAdr rInt q i ra Φ := by
  intro σ G H v w W rv rw Q q'
  obtain ⟨u, h2, ws, h3, h4⟩ := W.ownO ho
  subst h3
  unfold atI at h
  obtain ⟨j, h5, h6⟩ := Option.bind_eq_some_iff.mp h
  obtain ⟨u, h7, h8⟩ := h4.get' h6
  refine ⟨rIxL K, fun j => by rw [← hK j]; exact ix_list, q, ws, i, u, rv, rw, SqL.of h2, ?_, q' x O u G H k W (Ex.refl _) h8⟩
  unfold atI
  rw [h4.length, h5]
  exact h7
theorem c_sumO {q : Addr} {xs : List Int} {f : Own → List Own} [h : OwnAt O q (oLst rInt) xs f] {Φ : Int → List Own → Prop} (k : Φ xs.sum O) (hK : ∀ j, (F j).K = K := by intro _; rfl) (hc : ∀ j, (F j).calm = true := by intro _; rfl) :
    CW F K B Γ O (.builtin "sum") (fOne rAdr) q rInt Φ :=
  fun σ G H vs W ⟨v, e, h1⟩ Q q' => by
    obtain ⟨u, h2, ws, h3, h4⟩ := W.ownO h
    subst h3
    have e2 := All2.map_int h4
    exact ⟨rSum K, fun j => by rw [← hK j]; exact cr_sum (hc j), q, xs, by rw [e, show v = V.ref q from h1], SqL.of (by rw [← e2]; exact h2), q' _ O _ G H k W (Ex.refl _) rfl⟩
theorem c_sumL {xs : List Int} {Φ : Int → List Own → Prop} (k : Φ xs.sum O) (hK : ∀ j, (F j).K = K := by intro _; rfl) (hc : ∀ j, (F j).calm = true := by intro _; rfl) :
    CW F K B Γ O (.builtin "sum") (fOne (rLst rInt)) xs rInt Φ :=
  fun σ G H vs W ⟨v, e, a, ws, h1, h2, h3⟩ Q q' => by
    have e2 := All2.map_int h3
    exact ⟨rSum K, fun j => by rw [← hK j]; exact cr_sum (hc j), a, xs, by rw [e, h1], SqL.of (W.sub _ _ (by rw [← e2]; exact h2)), q' _ O _ G H k W (Ex.refl _) rfl⟩
/-- a method of an own list, of a list: what it asks of values -/
def MW (F : ι → Cx) (K : Fg) (B : Bs) (Γ : Gm) (O : List Own) (r : V → List V → Hp → VK → Prop) (ra : Rp α) (x : α) (f : RpF β) (y : β) (rc : Rp γ) (Φ : γ → List Own → Prop) : Prop :=
  ∀ σ G H v vs, Ws K B Γ O σ G H → ra.rep K G v x → f.rep K G vs y → ∀ Q : VK, (∀ z O' u G' H', Φ z O' → Ws K B Γ O' σ G' H' → Ex G G' → rc.rep K G' u z → Q u H') → r v vs H Q
theorem d_bm [fam : Fam F P w K mg base k] {T id : String} {name : Str} {r : V → List V → Hp → VK → Prop} {f : RpF β} {Φ : γ → List Own → Prop} (pa : PlainAttrs T) (slot : PySem.Slot T name id) (hty : typeOf (.builtin id) = pure (.type "method_descriptor")) (hm : ∀ j, MtR (F j) id r)
    (h : DW F K B Γ O o ra fun x O1 => (∀ σ G H v, Ws K B Γ O1 σ G H → ra.rep K G v x → tyV K T v H) ∧ DA F K B Γ O1 (e :: es) f fun y O2 => MW F K B Γ O2 r ra x f y rc Φ)
    (hbase : ∀ j, attributeBase o name (F j).env (eval o (F j).env) = eval o (F j).env := by intro _; rfl)
    (hfew : ∀ j, ((backTo pos (starEach (e :: es) (F j).env)).all (fun x => !x.1) && (backToKw pos (keywordEach [] (F j).env)).all (fun x => x.1.isSome)
      && decide ((e :: es).length + ([] : List Keyword).length + (if ([] : List Keyword).isEmpty then 0 else 1) < 30)) = true := by intro _; rfl)
    (hline : (apos.endLine == pos.line) = true := by rfl) (hs : ∀ j, starEach (e :: es) (F j).env = (false, eval e (F j).env) :: starEach es (F j).env := by intro _; rfl)
    (hpl : ∀ j, (backTo pos (starEach es (F j).env)).any (·.1) = false := by intro _; rfl) :
    DW F K B Γ O (.Call (.Attribute o name apos) (e :: es) [] pos) rc Φ := by
  intro σ G H W Q q
  refine ⟨tBM K T r (WE F o) (WA F (e :: es)), fun j => ?_, ?_⟩
  · have p := pe_bm (X := F j) pa slot hty (hm j) (WE.pe j) (WA.pa j) (hbase j) (hfew j) hline (hs j) (hpl j)
    rw [fam.ka j] at p
    exact p
  · refine h σ G H W _ fun x O1 v G1 H1 ⟨hT, k1⟩ W1 e1 r1 => ⟨hT σ G1 H1 v W1 r1, ?_⟩
    exact k1 σ G1 H1 W1 _ fun y O2 vs G2 H2 k2 W2 e2 r2 => k2 σ G2 H2 v vs W2 (ra.mono e2 r1) r2 Q fun z O' u G' H' kk W' e' r' => q z O' u G' H' kk W' ((e1.trans e2).trans e') r'
theorem d_bm0 [fam : Fam F P w K mg base k] {T id : String} {name : Str} {r : V → List V → Hp → VK → Prop} {Φ : γ → List Own → Prop} (pa : PlainAttrs T) (slot : PySem.Slot T name id) (hty : typeOf (.builtin id) = pure (.type "method_descriptor")) (hm : ∀ j, MtR (F j) id r)
    (h : DW F K B Γ O o ra fun x O1 => (∀ σ G H v, Ws K B Γ O1 σ G H → ra.rep K G v x → tyV K T v H) ∧ MW F K B Γ O1 r ra x fNil () rc Φ)
    (hbase : ∀ j, attributeBase o name (F j).env (eval o (F j).env) = eval o (F j).env := by intro _; rfl) (hline : (apos.endLine == pos.line) = true := by rfl) :
    DW F K B Γ O (.Call (.Attribute o name apos) [] [] pos) rc Φ := by
  intro σ G H W Q q
  refine ⟨tBM0 K T r (WE F o), fun j => ?_, ?_⟩
  · have p := pe_bm0 (X := F j) (cpos := pos) pa slot hty (hm j) (WE.pe j) (hbase j) hline
    rw [fam.ka j] at p
    exact p
  · refine h σ G H W _ fun x O1 v G1 H1 ⟨hT, k1⟩ W1 e1 r1 => ⟨hT σ G1 H1 v W1 r1, ?_⟩
    exact k1 σ G1 H1 v [] W1 r1 rfl Q fun z O' u G' H' kk W' e' r' => q z O' u G' H' kk W' (e1.trans e') r'
theorem tyO {O1 : List Own} {q : Addr} {xs : List α} {f : Own → List Own} (h : OwnAt O1 q (oLst ra) xs f) : ∀ σ G H v, Ws K B Γ O1 σ G H → rAdr.rep K G v q → tyV K "list" v H := fun σ G H v W r => by
  obtain ⟨u, h2, ws, h3, _⟩ := W.ownO h
  subst h3
  rw [show v = V.ref q from r]
  exact .inl ⟨rfl, ws, SqL.of h2⟩
/-- xs.append(e), an own list -/
theorem d_app [fam : Fam F P w K mg base k] {Φ : Unit → List Own → Prop} (h : DW F K B Γ O o rAdr fun q O1 => ∃ xs1 f1, OwnAt O1 q (oLst ra) xs1 f1 ∧ DW F K B Γ O1 e ra fun y O2 => ∃ xs f, OwnAt O2 q (oLst ra) xs f ∧ xs.length < sizeLine ∧ Φ () (f ⟨q, oLst ra, xs ++ [y]⟩))
    (hbase : ∀ j, attributeBase o "append" (F j).env (eval o (F j).env) = eval o (F j).env := by intro _; rfl)
    (hfew : ∀ j, ((backTo pos (starEach [e] (F j).env)).all (fun x => !x.1) && (backToKw pos (keywordEach [] (F j).env)).all (fun x => x.1.isSome)
      && decide ([e].length + ([] : List Keyword).length + (if ([] : List Keyword).isEmpty then 0 else 1) < 30)) = true := by intro _; rfl)
    (hline : (apos.endLine == pos.line) = true := by rfl) (hs : ∀ j, starEach [e] (F j).env = (false, eval e (F j).env) :: starEach [] (F j).env := by intro _; rfl) :
    DW F K B Γ O (.Call (.Attribute o "append" apos) [e] [] pos) rNon Φ := by
  refine d_bm (ra := rAdr) (f := fOne ra) PySem.F.plainAttrs_list PySem.F.slot_list_append PySem.F.type_list_append (fun j => mt_append) ?_ hbase hfew hline hs (fun _ => rfl)
  refine d_mono h fun q O1 ⟨xs1, f1, hO1, h1⟩ => ⟨tyO hO1, da_one (d_mono h1 fun y O2 ⟨xs, f, hO, hl, kk⟩ => ?_) hs⟩
  intro σ G H v vs W rv ⟨u, e1, ru⟩ Q q'
  obtain ⟨ob, h2, ws, h3, h4⟩ := W.ownO hO
  subst h3
  refine ⟨q, ws, u, rv, e1, h2, by rw [h4.length]; exact hl, q' () _ .non G _ kk ?_ (Ex.refl _) rfl⟩
  exact W.mutO (h := hO) (r' := oLst ra) (x' := xs ++ [y]) ⟨ws ++ [u], rfl, h4.append ⟨ru, trivial⟩⟩
end

/-! ### comprehensions -/
section
variable {ι : Type} {F : ι → Cx} {K : Fg} {B : Bs} {Γ : Gm} {O : List Own} {α β γ : Type} {ra : Rp α} {rb : Rp β} {e a b tg elt iter : Expr} {ifs : List Expr} {n : Str} {p pos : Pos} {scope : Scope}
variable {P : Program} {w : World} {mg : Str → Option Value} {base : Heap} {k : Nat}
theorem wipe_wipe {σ : St} {vs : List Nat} : wipe (wipe σ vs) vs = wipe σ vs := List.ext_getElem? fun j => by
  rw [wipe_at, wipe_at]
  by_cases hj : j ∈ vs
  · rw [if_pos hj, if_pos hj, wipe_length]
  · rw [if_neg hj, if_neg hj]
/-- the contexts of a comprehension's block -/
abbrev blkF {ι : Type} (F : ι → Cx) (scope : Scope) : ι × Shared × Hp × Addr × List (Str × Addr) × List Addr → Cx := fun j => (F j.1).blk j.2.1 j.2.2.1 scope (compEnvC scope j.2.2.2.2.1 j.2.2.2.1 (F j.1).env) j.2.2.2.2.2
instance famBlk [fam : Fam F P w K mg base k] : Fam (blkF F scope) P w K mg base k :=
  ⟨fun j => fam.pr j.1, fun j => fam.wd j.1, fun j => fam.ka j.1, fun j => fam.mg j.1, fun j => fam.bs j.1, fun j => fam.rm j.1, fun j => fam.cm j.1, fun j => fam.nd j.1⟩
theorem EnvR.dropAt {K : Fg} {G : Hp} : ∀ {σ : St} {Γ : Gm} (i : Nat), EnvR K G σ Γ → EnvR K G (σ.set i none) (Γ.set i none)
  | [], [], _, _ => trivial
  | v :: σ, none :: Γ, 0, h => (show EnvR K G σ Γ from h)
  | v :: σ, some s' :: Γ, 0, ⟨_, h⟩ => (show EnvR K G σ Γ from h)
  | v :: σ, none :: Γ, i + 1, h => EnvR.dropAt (σ := σ) (Γ := Γ) i h
  | v :: σ, some s' :: Γ, i + 1, ⟨a, h⟩ => ⟨a, EnvR.dropAt i h⟩
  | [], _ :: _, _, h => h.elim
  | _ :: _, [], _, h => h.elim
/-- the env with some slots forgotten -/
class WipeG (Γ : Gm) (vs : List Nat) (Γ' : outParam Gm) : Prop where
  env : ∀ {K : Fg} {G : Hp} {σ : St}, EnvR K G σ Γ → EnvR K G (wipe σ vs) Γ'
instance wipeNil {Γ : Gm} : WipeG Γ [] Γ := ⟨fun h => h⟩
instance wipeCons {Γ Γ' : Gm} {v : Nat} {vs : List Nat} {f : Option Slot → Gm} [h : WipeG Γ vs Γ'] [g : SetG Γ' v f] : WipeG Γ (v :: vs) (f none) := ⟨fun q => by
  rw [g.eq]
  exact (h.env q).dropAt v⟩
theorem Ws.env' {K : Fg} {B : Bs} {Γ Γ' : Gm} {O : List Own} {σ σ' : St} {G H : Hp} (W : Ws K B Γ O σ G H) (h : EnvR K G σ' Γ') : Ws K B Γ' O σ' G H := ⟨W.st, W.tab, W.bs, h, W.own, W.nd, W.mh⟩
theorem dts_nil {Φ : Bool → List Own → Prop} (h : Φ true O) : DTs F K B Γ O [] Φ := fun σ G H W Q q => ⟨_, fun _ => pts_nil, q true O G H h W (Ex.refl _)⟩
theorem dts_one {Φ : Bool → List Own → Prop} (h : DT F K B Γ O e Φ) : DTs F K B Γ O [e] Φ := fun σ G H W Q q => ⟨_, fun i => pts_one (WT.pt i), h σ G H W Q q⟩
/-- [elt for tg in iter if ..]: a list of one's own; behind i items ys is made and d holds -/
theorem d_lcO [fam : Fam F P w K mg base k] (own : List (Str × Nat)) (vs : List Nat) (ok : ∀ i, BlkOk (F i).N (F i).env.scope scope own) {Γ' : Gm} [hw : WipeG Γ vs Γ'] {js : List Nat} {Φ : Addr → List Own → Prop}
    (h : DI F K B Γ O tg iter ra fun xs O1 => ∃ (δ : Type) (Pv : Nat → List β → δ → Prop) (Of : δ → List Own), (∃ d, Pv 0 [] d ∧ O1 = Of d) ∧
      (∀ g D i x ys d, xs[i]? = some x → Pv i ys d → DG (blkF F scope) K (B.push g) Γ' (⟨D, oLst rb, ys⟩ :: Of d) tg ra x js fun Γ2 => DTs (blkF F scope) K (B.push g) Γ2 (⟨D, oLst rb, ys⟩ :: Of d) ifs fun t O2 =>
        (t = true → DW (blkF F scope) K (B.push g) Γ2 O2 elt rb fun y O3 => ∃ d', O3 = ⟨D, oLst rb, ys⟩ :: Of d' ∧ ys.length < sizeLine ∧ Pv (i + 1) (ys ++ [y]) d') ∧ (t = false → ∃ d', O2 = ⟨D, oLst rb, ys⟩ :: Of d' ∧ Pv (i + 1) ys d')) ∧
      (∀ D ys d, D ∉ B.M → Pv xs.length ys d → Φ D (⟨D, oLst rb, ys⟩ :: Of d)))
    (hv : own.map (·.2) = vs := by rfl) (hjs : ∀ j ∈ js, j ∈ vs := by decide) (hs : ∀ i x, foldedSetIterable iter (F i).env x = pure x := by intro _ _; rfl) :
    DW F K B Γ O (.ListComp elt [⟨tg, iter, ifs, 0⟩] scope pos) rAdr Φ := by
  intro σ G H W Q q
  refine ⟨tLc (WI F tg iter) (WG (blkF F scope) tg) (WTs (blkF F scope) ifs) (WE (blkF F scope) elt) (own.map (·.2)), fun i => pe_lc (fam.cm i) (fam.nd i) (WI.pi i) (ok i) (fun s H C cl fp => WG.pg (F := blkF F scope) (i, s, H, C, cl, fp))
    (fun s H C cl fp => WTs.pts (F := blkF F scope) (i, s, H, C, cl, fp)) (fun s H C cl fp => WE.pe (F := blkF F scope) (i, s, H, C, cl, fp)) (hs i), ?_⟩
  refine h σ G H W _ fun xs J O1 G1 H1 ⟨δ, Pv, Of, ⟨d0, p0, o0⟩, hst, hd⟩ gv W1 e1 D hD => ?_
  rw [hv]
  have hG : ∀ {G' : Hp}, Ex G1 G' → EnvR K G' σ Γ := fun e => W.env.mono (e1.trans e)
  refine ⟨fun i m H => m = xs.length - i ∧ i ≤ xs.length ∧ ∃ ys d G2, Pv i ys d ∧ Ws K (B.push G1) Γ' (⟨D, oLst rb, ys⟩ :: Of d) (wipe σ vs) G2 H, ⟨xs.length, by simp, Nat.zero_le _, [], d0, G1, p0, ?_⟩, ?_⟩
  · have W2 := (W1.newOwn hD (r := oLst rb) (x := []) ⟨[], rfl, trivial⟩).base
    rw [o0] at W2
    exact W2.env' (hw.env (hG (Ex.refl _)))
  rintro i m H2 ⟨rfl, hi, ys, d, G2, pd, W2⟩
  have eb : Ex G1 G2 := W2.bs G1 List.mem_cons_self
  by_cases hlt : i < xs.length
  · refine .inr ⟨gv.go i G2 H2 hlt eb W2.sub, fun H' => i + 1 ≤ xs.length ∧ ∃ ys d G2, Pv (i + 1) ys d ∧ Ws K (B.push G1) Γ' (⟨D, oLst rb, ys⟩ :: Of d) (wipe σ vs) G2 H', fun H' ⟨l, z⟩ => ⟨xs.length - (i + 1), by omega, rfl, l, z⟩, fun v H3 y => ?_⟩
    obtain ⟨x, G3, hx, s3, r3⟩ := gv.yld i G2 H2 v H3 hlt eb W2.sub y
    have W3 := W2.step s3
    refine hst G1 D i x ys d hx pd (wipe σ vs) G3 H3 v W3 r3 _ fun Γ2 σ2 q2 W4 wp => ⟨(wp vs hjs).trans wipe_wipe, ?_⟩
    refine q2 σ2 G3 H3 W4 _ fun t O2 G4 H4 kk W5 e5 => ?_
    have back : ∀ {O' : List Own} {G' H' : Hp}, Ws K (B.push G1) Γ2 O' σ2 G' H' → Ws K (B.push G1) Γ' O' (wipe σ vs) G' H' := fun W' => W'.env' (hw.env (hG (W'.bs G1 List.mem_cons_self)))
    cases t with
    | false =>
      obtain ⟨d', o2, p2⟩ := kk.2 rfl
      subst o2
      exact iteF ⟨hlt, ys, d', G4, p2, back W5⟩
    | true =>
      refine iteT ?_
      refine kk.1 rfl σ2 G4 H4 W5 _ fun y O3 u G5 H5 ⟨d', o3, hl, p3⟩ W6 e6 r6 => ?_
      subst o3
      obtain ⟨⟨ob, h1, ws, h2, h3⟩, _⟩ := W6.own _ List.mem_cons_self
      subst h2
      refine ⟨ws, h1, by rw [h3.length]; exact hl, hlt, ys ++ [y], d', G5, p3, ?_⟩
      exact back (W6.mutHd (r' := oLst rb) (x' := ys ++ [y]) ⟨ws ++ [u], rfl, h3.append ⟨r6, trivial⟩⟩)
  · obtain rfl : i = xs.length := by omega
    refine .inl ⟨gv.stop G2 H2 eb W2.sub, q D _ (.ref D) G2 H2 (hd D ys d (W1.notM hD) pd) (W2.unbase.env' (hG eb)) (e1.trans eb) rfl⟩
/-- the same, the list will not change -/
theorem d_frzE {Φ : List α → List Own → Prop} (h : DW F K B Γ O e rAdr fun q O1 => ∃ xs O2, O1 = ⟨q, oLst ra, xs⟩ :: O2 ∧ q ∉ B.M ∧ Φ xs O2) : DW F K B Γ O e (rLst ra) Φ := by
  intro σ G H W Q q
  refine h σ G H W Q fun p O1 v G1 H1 ⟨xs, O2, e1, hM, kk⟩ W1 e2 r => ?_
  subst e1
  obtain ⟨o, ⟨ws, h1, h2⟩, W2, e3⟩ := W1.frz hM
  subst h1
  exact q xs O2 v _ H1 kk W2 (e2.trans e3) ⟨p, ws, r, upd_same, h2.mono fun _ _ z => ra.mono e3 z⟩
end

/-! ### promises -/
/-- a def's promise: from x (with pre), its own objects own x, it gives y and leaves own objects O' (with post) -/
def spM {α β : Type} (K : Fg) (T : List Addr) (ra : RpF α) (pre : α → Prop) (own : α → List Own) (r : Rp β) (post : α → β → List Own → Prop) : Sp := fun vs H Q _ => ∃ G x, Ex G H ∧ (∀ P ∈ T, Tb H P ∧ G P = none) ∧ ra.rep K G vs x ∧ pre x ∧
  (∀ w ∈ own x, (∃ o, H w.a = some o ∧ w.r.rep K G o w.x) ∧ G w.a = none ∧ w.a ∉ T) ∧ ((own x).map (·.a)).Nodup ∧
  ∀ v y O' G' H', Stp T ((own x).map (·.a)) G H G' H' → (∀ w ∈ O', (∃ o, H' w.a = some o ∧ w.r.rep K G' o w.x) ∧ G' w.a = none ∧ w.a ∉ T ∧ (H w.a = none ∨ w.a ∈ (own x).map (·.a))) → (O'.map (·.a)).Nodup → r.rep K G' v y → post x y O' → Q v H'
section
variable {K : Fg} {B : Bs} {Γ : Gm} {O : List Own} {α β : Type} {ra : RpF α} {rb : Rp β} {pre : α → Prop} {own : α → List Own} {post : α → β → List Own → Prop} {T : List Addr}
theorem Stp.tsub {T T' M : List Addr} {G H G' H' : Hp} (a : Stp T M G H G' H') (h : ∀ P ∈ T, P ∈ T') (hm : ∀ P ∈ M, P ∉ T') : Stp T' M G H G' H' :=
  ⟨a.sub, a.g, fun c o q t n => a.h c o q (fun z => t (h c z)) n, a.th, a.fr, fun P hP q => by
    by_cases hT : P ∈ T
    · exact a.tab P hT q
    · obtain ⟨ps, h1, h2⟩ := q
      exact ⟨ps, a.h P _ h1 hT (fun z => hm P z hP), h2⟩⟩
/-- a promise is asked: own x and R are the own objects that stand; behind it O' and R -/
theorem sw_m {x : α} {Φ : β → List Own → Prop} (R : List Own) (hp : pre x) (hO : ∀ w ∈ own x ++ R, w ∈ O) (hn : (O.map (·.a)).Nodup → ((own x ++ R).map (·.a)).Nodup) (h : ∀ y O', post x y O' → Φ y (O' ++ R))
    (hT : ∀ P ∈ T, P ∈ B.T := by first | exact fun _ h => h | (intro _ h; cases h)) : SW K B Γ O (spM K T ra pre own rb post) [] ra x rb Φ := by
  intro σ G H vs W rv Q q
  have W' : Ws K B Γ (own x ++ R) σ G H := W.perm hO hn
  have nd' := W'.nd
  rw [List.map_append] at nd'
  refine ⟨G, x, W.sub, fun P hP => W.tab P (hT P hP), by rw [List.append_nil]; exact rv, hp, fun w hw => ?_, (List.nodup_append.mp nd').1, fun v y O' G' H' s hO' hn' r hpost => ?_⟩
  · obtain ⟨h1, h2, h3, _⟩ := W'.own w (List.mem_append_left _ hw)
    exact ⟨h1, h2, fun z => h3 (hT _ z)⟩
  · have hM : ∀ c ∈ (own x).map (·.a), (c ∈ B.M ∨ B.H0 c = none) ∧ c ∉ B.T := fun c hc => by
      obtain ⟨w, hw, e⟩ := List.mem_map.mp hc
      obtain ⟨_, _, h3, h4⟩ := W'.own w (List.mem_append_left _ hw)
      rw [← e]
      exact ⟨h4.symm, h3⟩
    have s2 := s.tsub hT fun P hP => (hM P hP).2
    refine q y (O' ++ R) v G' H' (h y O' hpost) ⟨W.st.trans s2 fun c hc => (hM c hc).1, fun P hP => ⟨s2.tab P hP (W.tab P hP).1, ?_⟩, fun g hg => (W.bs g hg).trans s.g, W.env.mono s.g, fun w hw => ?_, ?_, W.mh⟩ s.g r
    · cases e : G' P with
      | none => rfl
      | some o =>
        have z := s.fr P (W.tab P hP).2 (by rw [e]; simp)
        obtain ⟨⟨ps, h1, _⟩, _⟩ := W.tab P hP
        rw [h1] at z
        cases z
    · rcases List.mem_append.mp hw with z | z
      · obtain ⟨h1, h2, h3, h4⟩ := hO' w z
        refine ⟨h1, h2, fun hw' => ?_, ?_⟩
        · by_cases hT' : w.a ∈ T
          · exact h3 hT'
          · rcases h4 with h4 | h4
            · obtain ⟨⟨ps, g1, _⟩, _⟩ := W.tab _ hw'
              rw [g1] at h4
              cases h4
            · exact (hM _ h4).2 hw'
        · rcases h4 with h4 | h4
          · exact .inl (W.free h4)
          · exact (hM _ h4).1.symm
      · obtain ⟨⟨o, h1, h2⟩, h3, h4, h5⟩ := W'.own w (List.mem_append_right _ z)
        have nM : w.a ∉ (own x).map (·.a) := fun c => (List.nodup_append.mp nd').2.2 _ c _ (List.mem_map.mpr ⟨w, z, rfl⟩) rfl
        refine ⟨⟨o, s2.h _ _ h1 h4 nM, w.r.mono s.g h2⟩, ?_, h4, h5⟩
        cases e : G' w.a with
        | none => rfl
        | some u =>
          have z := s.fr _ h3 (by rw [e]; simp)
          rw [h1] at z
          cases z
    · rw [List.map_append]
      refine List.nodup_append.mpr ⟨hn', (List.nodup_append.mp nd').2.1, fun c hc d hd e => ?_⟩
      subst e
      obtain ⟨w, hw, ew⟩ := List.mem_map.mp hc
      obtain ⟨w2, hw2, ew2⟩ := List.mem_map.mp hd
      obtain ⟨_, _, _, h4⟩ := hO' w hw
      obtain ⟨⟨o, h1, _⟩, _⟩ := W'.own w2 (List.mem_append_right _ hw2)
      rw [ew2, ← ew] at h1
      rcases h4 with h4 | h4
      · rw [h1] at h4
        cases h4
      · rw [ew] at h4
        exact (List.nodup_append.mp nd').2.2 c h4 c hd rfl
/-- the slots of the arguments -/
class Args {α : Type} (f : RpF α) (g : outParam (α → Gm)) : Prop where
  env : ∀ {K : Fg} {G : Hp} {vs : List V} {x : α} {m : Nat}, f.rep K G vs x → EnvR K G (vs.map some ++ List.replicate m none) (g x ++ List.replicate m none)
theorem env_nones {K : Fg} {G : Hp} : ∀ m : Nat, EnvR K G (List.replicate m none) (List.replicate m none)
  | 0 => trivial
  | m + 1 => env_nones m
instance argsNil : Args fNil (fun _ => []) := ⟨fun {K G vs x m} h => by
  rw [show vs = [] from h]
  exact env_nones m⟩
instance argsOne {r : Rp α} : Args (fOne r) (fun x => [some ⟨r, x⟩]) := ⟨fun {K G vs x m} ⟨v, h, q⟩ => by
  subst h
  exact ⟨⟨v, rfl, q⟩, env_nones m⟩⟩
instance argsCons {r : Rp α} {f : RpF β} {g : β → Gm} [h : Args f g] : Args (fCons r f) (fun x => some ⟨r, x.1⟩ :: g x.2) := ⟨fun {K G vs x m} ⟨v, ws, e, q, z⟩ => by
  subst e
  exact ⟨⟨v, rfl, q⟩, h.env z⟩⟩
/-- the context of a def's body -/
abbrev Xf (P : Program) (w : World) (K : Fg) (mg : Str → Option Value) (base : Heap) (N : List Str) (qual : Str) (st : Stmt) (f : Addr) (cdv : Value) (A : Around) (outer : List Env) (s : Shared) (H : Hp) (E : XK) : Cx :=
  (cxOf CX0 P w K mg base N qual (defScope st) f cdv A outer s H E).nox
/-- THE RULE: a def keeps its promise -/
theorem fn_m {P : Program} {w : World} {mg : Str → Option Value} {base : Heap} {x qual : Str} {st : Stmt} {f : Addr} {fd : FuncData} {N ps : List Str} {k m : Nat} {g : α → Gm} [hl : Len ra m] [ha : Args ra g]
    (F : Fun K x qual st f fd) (S : FnScope N ps (defScope st)) (T : List Addr)
    (h : ∀ (cdv : Value) (A : Around) (outer : List Env) (s : Shared) (G H : Hp) (E : XK) (x : α) (Q : VK), Fam (Us (Xf P w K mg base N qual st f cdv A outer s H E)) P w K mg base k → pre x →
      (∀ {Γ : Gm} {O' : List Own} {y : β}, post x y O' → RT K ⟨T, (own x).map (·.a), G, H, []⟩ Γ O' rb y { nx := fun _ H' => Q .non H', rt := Q }) →
      DS (Xf P w K mg base N qual st f cdv A outer s H E) K ⟨T, (own x).map (·.a), G, H, []⟩ (g x ++ List.replicate (N.length - m) none) (own x) (defBody st) { nx := fun _ H' => Q .non H', rt := Q }) (hm : m = ps.length := by rfl) :
    FnOk P w K mg base CX0 (k + 1) f fd ps (spM K T ra pre own rb post) := by
  refine F.ok S (fun vs H Q E ⟨G, x, _, _, r, _⟩ => by rw [hl.len r]; exact hm) fun cdv A outer s H vs Q E hr ⟨G, x, sub, tab, r, hp, ho, hn, q⟩ => ?_
  have fam : Fam (Us (Xf P w K mg base N qual st f cdv A outer s H E)) P w K mg base k := ⟨fun _ => rfl, fun _ => rfl, fun _ => rfl, fun _ => rfl, fun _ => rfl, fun _ => hr, fun _ => rfl, fun _ => S.nd⟩
  have hx := h cdv A outer s G H E x Q fam hp (fun {Γ O' y} hpost v σ G' H' W rv => q v y O' G' H' W.st (fun w hw => let ⟨a, b, c, d⟩ := W.own w hw; ⟨a, b, c, d⟩) W.nd rv hpost)
  refine hx (L2.start N vs) G H ⟨Stp.refl sub, tab, fun _ z => absurd z (by simp), ?_, fun w hw => ?_, hn, fun c hc => ?_⟩
  · have e := ha.env (m := N.length - m) r
    unfold L2.start
    rw [hl.len r]
    exact e
  · obtain ⟨a, b, c⟩ := ho w hw
    exact ⟨a, b, c, .inr (List.mem_map.mpr ⟨w, hw, rfl⟩)⟩
  · obtain ⟨w, hw, e⟩ := List.mem_map.mp hc
    obtain ⟨⟨o, a, _⟩, _⟩ := ho w hw
    show H c ≠ none
    rw [← e, a]
    simp
/-- a promise that changes nothing -/
abbrev sp0 (K : Fg) (T : List Addr) (ra : RpF α) (pre : α → Prop) (r : Rp β) (post : α → β → Prop) : Sp := spM K T ra pre (fun _ => []) r fun x y O' => O' = [] ∧ post x y
theorem sw_0 {x : α} {post : α → β → Prop} {Φ : β → List Own → Prop} (hp : pre x) (h : ∀ y, post x y → Φ y O) (hT : ∀ P ∈ T, P ∈ B.T := by first | exact fun _ h => h | (intro _ h; cases h)) : SW K B Γ O (sp0 K T ra pre rb post) [] ra x rb Φ :=
  sw_m O hp (fun w hw => hw) (fun z => z) (fun y O' ⟨e, p⟩ => by subst e; exact h y p) hT
end
/-! ### own lists that are done -/
section
variable {X : Cx} {K : Fg} {B : Bs} {Γ Γ' : Gm} {O O' : List Own} {α β : Type} {ra : Rp α} {D : Ends} {rest : List Stmt}
theorem rt_frz {q : Addr} {xs : List α} (hM : q ∉ B.M) (h : RT K B Γ O (rLst ra) xs D) : RT K B Γ (⟨q, oLst ra, xs⟩ :: O) rAdr q D := fun v σ G H W r => by
  obtain ⟨o, ⟨ws, h1, h2⟩, W2, e⟩ := W.frz hM
  subst h1
  exact h v σ _ H W2 ⟨q, ws, r, upd_same, h2.mono fun _ _ z => ra.mono e z⟩
theorem s_frz (i : Nat) {q : Addr} {xs : List α} {f : Option Slot → Gm} [hA : At Γ i rAdr q] [hg : SetG Γ i f] (hM : q ∉ B.M) (h : DS X K B (f (some ⟨rLst ra, xs⟩)) O rest D) : DS X K B Γ (⟨q, oLst ra, xs⟩ :: O) rest D := fun σ G H W => by
  obtain ⟨o, ⟨ws, h1, h2⟩, W2, e⟩ := W.frz hM
  subst h1
  obtain ⟨u, h3, h4⟩ := W2.env.get hA.get
  have W3 := W2.set (s := ⟨rLst ra, xs⟩) i (u := u) ⟨q, ws, h4, upd_same, h2.mono fun _ _ z => ra.mono e z⟩
  have e2 : σ.set i (some u) = σ := by
    refine List.ext_getElem? fun j => ?_
    by_cases hj : i = j
    · subst hj
      rw [List.getElem?_set_self (List.getElem?_eq_some_iff.mp h3).1, h3]
    · rw [List.getElem?_set_ne hj]
  rw [e2, ← hg.eq] at W3
  exact h σ _ H W3
end
end Sk


set_option Elab.async false
set_option linter.all false
set_option maxRecDepth 100000
set_option maxHeartbeats 4100000
/-! Sk5: dicts by written keys; what an own object hides. -/
namespace Sk
open PySem L2 Evl

/-! ### dicts whose keys are written texts -/
abbrev zipK (ns : List Str) (vs : List V) : List (Key × V) := (ns.map Sum.inr).zip vs
theorem zip_val {k : Str} : ∀ {ns : List Str} {vs : List V} {i : Nat}, ns.Nodup → ns[i]? = some k → valV (zipK ns vs) (Sum.inr k) = vs[i]?
  | [], _, _, _, e => by simp at e
  | n :: ns, [], i, _, _ => by
    show valV ([] : List (Key × V)) _ = _
    rw [valV_nil]
    simp
  | n :: ns, v :: vs, 0, h, e => by
    have e' : n = k := by simpa using e
    subst e'
    show valV ((Sum.inr n, v) :: zipK ns vs) _ = _
    rw [valV_pos rfl]
    rfl
  | n :: ns, v :: vs, i + 1, h, e => by
    have e' : ns[i]? = some k := by simpa using e
    have ne : ¬ (Sum.inr n : Key) = Sum.inr k := fun z => (List.nodup_cons.mp h).1 (by
      have z' : n = k := Sum.inr.inj z
      rw [z']
      exact List.mem_of_getElem? e')
    show valV ((Sum.inr n, v) :: zipK ns vs) _ = _
    rw [valV_neg ne, zip_val (List.nodup_cons.mp h).2 e']
    simp
theorem zip_mem {k : Str} {i : Nat} : ∀ {ns : List Str} {vs : List V}, ns[i]? = some k → i < vs.length → ∃ y ∈ zipK ns vs, y.1 = Sum.inr k := fun {ns vs} e h => by
  refine ⟨(Sum.inr k, vs[i]), ?_, rfl⟩
  refine List.mem_of_getElem? (i := i) ?_
  rw [List.getElem?_zip_eq_some]
  exact ⟨by rw [List.getElem?_map, e]; rfl, List.getElem?_eq_getElem h⟩
theorem zip_put {k : Str} {y : V} : ∀ {ns : List Str} {vs : List V} {i : Nat}, ns.Nodup → ns[i]? = some k → i < vs.length → putK (zipK ns vs) (Sum.inr k) y = zipK ns (vs.set i y) := by
  intro ns vs i h e hi
  have hany : ((zipK ns vs).any fun kv => decide (kv.1 = (Sum.inr k : Key))) = true := by
    obtain ⟨p, hp, e1⟩ := zip_mem (vs := vs) e hi
    exact List.any_eq_true.mpr ⟨p, hp, decide_eq_true e1⟩
  unfold putK
  rw [if_pos hany]
  clear hany
  induction ns generalizing vs i with
  | nil => simp at e
  | cons n ns ih =>
    cases vs with
    | nil => simp at hi
    | cons v vs =>
      cases i with
      | zero =>
        have e' : n = k := by simpa using e
        subst e'
        show (if (Sum.inr n : Key) = Sum.inr n then _ else _) :: List.map _ (zipK ns vs) = (Sum.inr n, y) :: zipK ns vs
        rw [if_pos rfl]
        refine congrArg _ ?_
        refine (List.map_congr_left fun p hp => ?_).trans (List.map_id _)
        have hk : p.1 ∈ ns.map Sum.inr := (List.of_mem_zip (show (p.1, p.2) ∈ _ from hp)).1
        obtain ⟨m, hm, em⟩ := List.mem_map.mp hk
        have ne : ¬ p.1 = (Sum.inr n : Key) := fun z => (List.nodup_cons.mp h).1 (by
          have z' : m = n := Sum.inr.inj (em.trans z)
          rw [← z']
          exact hm)
        rw [if_neg ne]
        rfl
      | succ i =>
        have e' : ns[i]? = some k := by simpa using e
        have ne : ¬ (Sum.inr n : Key) = Sum.inr k := fun z => (List.nodup_cons.mp h).1 (by
          have z' : n = k := Sum.inr.inj z
          rw [z']
          exact List.mem_of_getElem? e')
        show (if (Sum.inr n : Key) = Sum.inr k then _ else _) :: List.map _ (zipK ns vs) = (Sum.inr n, v) :: zipK ns (vs.set i y)
        rw [if_neg ne]
        exact congrArg _ (ih (List.nodup_cons.mp h).2 e' (by simpa using hi))
def rRec {α : Type} (ns : List Str) (f : RpF α) : Rp α := ⟨fun K G v x => ∃ a vs, v = .ref a ∧ G a = some (.dK (zipK ns vs)) ∧ f.rep K G vs x, fun e ⟨a, vs, h1, h2, h3⟩ => ⟨a, vs, h1, e _ _ h2, f.mono e h3⟩⟩
def oRec {α : Type} (ns : List Str) (f : RpF α) : Ow α := ⟨fun K G o x => ∃ vs, o = .dK (zipK ns vs) ∧ f.rep K G vs x, fun e ⟨vs, h1, h2⟩ => ⟨vs, h1, f.mono e h2⟩⟩
/-- the i-th of unlike things, set -/
class FSet {α : Type} (f : RpF α) (i : Nat) {β : outParam Type} (r : outParam (Rp β)) (g : outParam (α → β → α)) : Prop where
  set : ∀ {K : Fg} {G : Hp} {vs : List V} {x : α} {v : V} {y : β}, f.rep K G vs x → r.rep K G v y → f.rep K G (vs.set i v) (g x y)
section
variable {α β γ : Type}
instance fset1 {r : Rp α} : FSet (fOne r) 0 r (fun _ y => y) := ⟨fun ⟨v, h, k⟩ q => ⟨_, by rw [h]; rfl, q⟩⟩
instance fset0 {r : Rp α} {f : RpF β} : FSet (fCons r f) 0 r (fun x y => (y, x.2)) := ⟨fun ⟨v, ws, h, k, z⟩ q => ⟨_, ws, by rw [h]; rfl, q, z⟩⟩
instance fsetS {r : Rp α} {f : RpF β} {i : Nat} {r' : Rp γ} {g : β → γ → β} [h : FSet f i r' g] : FSet (fCons r f) (i + 1) r' (fun x y => (x.1, g x.2 y)) := ⟨fun ⟨v, ws, e, k, z⟩ q => ⟨v, _, by rw [e]; rfl, k, h.set z q⟩⟩
variable {ι : Type} {F : ι → Cx} {K : Fg} {B : Bs} {Γ : Gm} {O : List Own} {ra : Rp α} {rb : Rp β} {e o : Expr} {p pos pos' pos2 : Pos} {j : Nat} {ns : List Str} {fr : RpF α}
variable {P : Program} {w : World} {mg : Str → Option Value} {base : Heap} {k : Nat}
/-- d['key'], an own dict, a dict -/
theorem d_recO [fam : Fam F P w K mg base k] {key : Str} (i : Nat) {r : Rp β} {g : α → β} [hf : FAt fr i r g] {Φ : β → List Own → Prop} (hk : ns[i]? = some key) (hn : ns.Nodup)
    (h : DW F K B Γ O o rAdr fun q O1 => ∃ x f, OwnAt O1 q (oRec ns fr) x f ∧ Φ (g x) O1) : DW F K B Γ O (.Subscript o (.Constant (.str key) j pos') pos) r Φ := by
  intro σ G H W Q q
  refine ⟨tDGet (WE F o) (tC (.str key)), fun i => pe_dget (by have := (fam.rm i).units; omega) (WE.pe i) pe_str (fun _ _ => rfl), ?_⟩
  refine h σ G H W _ fun c O1 v G1 H1 ⟨x, f, hO, kk⟩ W1 e1 r1 => ?_
  obtain ⟨ob, h1, vs, h2, h3⟩ := W1.ownO hO
  subst h2
  obtain ⟨u, h4, h5⟩ := hf.get h3
  refine ⟨c, u, r1, ?_, q _ O1 u G1 H1 kk W1 e1 h5⟩
  have e2 := DGet.k (k := Sum.inr key) h1
  rw [zip_val hn hk, h4] at e2
  exact e2
theorem d_rec [fam : Fam F P w K mg base k] {key : Str} (i : Nat) {r : Rp β} {g : α → β} [hf : FAt fr i r g] {Φ : β → List Own → Prop} (hk : ns[i]? = some key) (hn : ns.Nodup)
    (h : DW F K B Γ O o (rRec ns fr) fun x O1 => Φ (g x) O1) : DW F K B Γ O (.Subscript o (.Constant (.str key) j pos') pos) r Φ := by
  intro σ G H W Q q
  refine ⟨tDGet (WE F o) (tC (.str key)), fun i => pe_dget (by have := (fam.rm i).units; omega) (WE.pe i) pe_str (fun _ _ => rfl), ?_⟩
  refine h σ G H W _ fun x O1 v G1 H1 kk W1 e1 ⟨c, vs, r1, h1, h3⟩ => ?_
  obtain ⟨u, h4, h5⟩ := hf.get h3
  refine ⟨c, u, r1, ?_, q _ O1 u G1 H1 kk W1 e1 h5⟩
  have e2 := DGet.k (k := Sum.inr key) (W1.sub _ _ h1)
  rw [zip_val hn hk, h4] at e2
  exact e2
/-- the same, the dict a name's -/
theorem d_recV [fam : Fam F P w K mg base k] {key n : Str} (iv i : Nat) {q : Addr} {x : α} {f : Own → List Own} {r : Rp β} {g : α → β} [hA : At Γ iv rAdr q] [hO : OwnAt O q (oRec ns fr) x f] [hf : FAt fr i r g] {Φ : β → List Own → Prop} (hk : ns[i]? = some key) (hn : ns.Nodup) (kk : Φ (g x) O)
    (hN : ∀ j, (F j).N[iv]? = some n := by intro _; rfl) (hv : ∀ j, Vis (F j).env.scope n := by intro _; first | exact Or.inl rfl | exact Or.inr (Or.inl rfl) | exact Or.inr (Or.inr rfl)) (hd : (n == ("__debug__" : Str)) = false := by decide)
    (hcd : (n == ("__classdict__" : Str)) = false := by decide) : DW F K B Γ O (.Subscript (.Name n pos2) (.Constant (.str key) j pos') pos) r Φ :=
  d_recO i hk hn (d_var iv ⟨x, f, hO, kk⟩ hN hv hd hcd)
theorem d_recP [fam : Fam F P w K mg base k] {key n : Str} (iv i : Nat) {x : α} {r : Rp β} {g : α → β} [hA : At Γ iv (rRec ns fr) x] [hf : FAt fr i r g] {Φ : β → List Own → Prop} (hk : ns[i]? = some key) (hn : ns.Nodup) (kk : Φ (g x) O)
    (hN : ∀ j, (F j).N[iv]? = some n := by intro _; rfl) (hv : ∀ j, Vis (F j).env.scope n := by intro _; first | exact Or.inl rfl | exact Or.inr (Or.inl rfl) | exact Or.inr (Or.inr rfl)) (hd : (n == ("__debug__" : Str)) = false := by decide)
    (hcd : (n == ("__classdict__" : Str)) = false := by decide) : DW F K B Γ O (.Subscript (.Name n pos2) (.Constant (.str key) j pos') pos) r Φ :=
  d_rec i hk hn (d_var iv kk hN hv hd hcd)
/-- d['key'] = e, an own dict that has the key -/
theorem s_recPut {X : Cx} {rest : List Stmt} {D : Ends} [fam : Fam (Us X) P w K mg base k] {key : Str} (i : Nat) {m : Nat} {r : Rp β} {g : α → β → α} [hf : FSet fr i r g] [hl : Len fr m] (hk : ns[i]? = some key) (hn : ns.Nodup)
    (h : DW (Us X) K B Γ O e r fun y O1 => DW (Us X) K B Γ O1 o rAdr fun q O2 => ∃ x f, OwnAt O2 q (oRec ns fr) x f ∧ DS X K B Γ (f ⟨q, oRec ns fr, g x y⟩) rest D)
    (hi : i < m := by decide) (hm : m < 1000 := by decide) (hs : swapsWith e (some (.Subscript o (.Constant (.str key) j pos') pos2)) pos.line X.env = pure false := by rfl) : DS X K B Γ O (.Assign [.Subscript o (.Constant (.str key) j pos') pos2] e pos :: rest) D := by
  intro σ G H W
  refine WSs.cons (ps_dput (td := WE (Us X) o) (ty := tC (.str key)) (tv := WE (Us X) e) (hu_of (fam.rm ())) (WE.pe (F := Us X) ()) pe_str (WE.pe (F := Us X) ()) hs) ?_
  refine h σ G H W _ fun y O1 u G1 H1 k1 W1 e1 r1 => ?_
  refine k1 σ G1 H1 W1 _ fun c O2 v G2 H2 ⟨x, f, hO, kk⟩ W2 e2 r2 => ?_
  obtain ⟨ob, h1, vs, h2, h3⟩ := W2.ownO hO
  subst h2
  have hlen := hl.len h3
  have hz : (zipK ns vs).length < sizeLine := by
    have e3 : (zipK ns vs).length ≤ vs.length := by
      unfold zipK
      rw [List.length_zip]
      exact Nat.min_le_right _ _
    exact Nat.lt_of_le_of_lt e3 (by rw [hlen]; exact small1000 (by omega))
  refine ⟨c, _, r2, DPut.k (k := Sum.inr key) h1 hz, ?_⟩
  refine kk _ _ _ (W2.mutO (h := hO) (r' := oRec ns fr) (x' := g x y) ⟨vs.set i u, ?_, hf.set h3 (r.mono e2 r1)⟩)
  rw [zip_put hn hk (by omega)]
/-- the same, the dict a name's, e changes none of the own objects -/
theorem s_recPutV {X : Cx} {rest : List Stmt} {D : Ends} [fam : Fam (Us X) P w K mg base k] {key n : Str} (iv i : Nat) {m : Nat} {q : Addr} {x : α} {f : Own → List Own} {r : Rp β} {g : α → β → α} [hA : At Γ iv rAdr q] [hO : OwnAt O q (oRec ns fr) x f] [hf : FSet fr i r g] [hl : Len fr m] (hk : ns[i]? = some key) (hn : ns.Nodup)
    (h : DW (Us X) K B Γ O e r fun y O1 => O1 = O ∧ DS X K B Γ (f ⟨q, oRec ns fr, g x y⟩) rest D)
    (hN : X.N[iv]? = some n := by rfl) (hv : Vis X.env.scope n := by first | exact Or.inl rfl | exact Or.inr (Or.inl rfl) | exact Or.inr (Or.inr rfl)) (hd : (n == ("__debug__" : Str)) = false := by decide) (hcd : (n == ("__classdict__" : Str)) = false := by decide)
    (hi : i < m := by decide) (hm : m < 1000 := by decide) (hs : swapsWith e (some (.Subscript (.Name n p) (.Constant (.str key) j pos') pos2)) pos.line X.env = pure false := by rfl) : DS X K B Γ O (.Assign [.Subscript (.Name n p) (.Constant (.str key) j pos') pos2] e pos :: rest) D := by
  refine s_recPut (fr := fr) (m := m) (g := g) i hk hn (d_mono h fun y O1 ⟨e1, kk⟩ => ?_) hi hm hs
  subst e1
  exact d_var iv ⟨x, f, hO, kk⟩ (fun _ => hN) (fun _ => hv) hd hcd
end

/-! ### hidden states -/
def oEx {α : Type} (r : Ow α) (good : α → Prop) : Ow Unit := ⟨fun K G o _ => ∃ x, good x ∧ r.rep K G o x, fun e ⟨x, h1, h2⟩ => ⟨x, h1, r.mono e h2⟩⟩
section
variable {X : Cx} {K : Fg} {B : Bs} {Γ Γ' : Gm} {O O' : List Own} {α β γ : Type} {ra : Rp α} {D : Ends} {rest : List Stmt} {r : Ow β} {good : β → Prop}
theorem s_open {q : Addr} (h : ∀ x, good x → DS X K B Γ (⟨q, r, x⟩ :: O) rest D) : DS X K B Γ (⟨q, oEx r good, ()⟩ :: O) rest D := fun σ G H W => by
  obtain ⟨⟨o, h1, x, h2, h3⟩, h4, h5, h6⟩ := W.own _ List.mem_cons_self
  refine h x h2 σ G H ⟨W.st, W.tab, W.bs, W.env, fun v hv => ?_, W.nd, W.mh⟩
  rcases List.mem_cons.mp hv with z | z
  · subst z
    exact ⟨⟨o, h1, h3⟩, h4, h5, h6⟩
  · exact W.own v (List.mem_cons_of_mem _ z)
theorem Ws.close {q : Addr} {x : β} {σ : St} {G H : Hp} (hx : good x) (W : Ws K B Γ (⟨q, r, x⟩ :: O) σ G H) : Ws K B Γ (⟨q, oEx r good, ()⟩ :: O) σ G H :=
  ⟨W.st, W.tab, W.bs, W.env, fun v hv => by
    rcases List.mem_cons.mp hv with z | z
    · subst z
      obtain ⟨⟨o, h1, h3⟩, h4, h5, h6⟩ := W.own _ List.mem_cons_self
      exact ⟨⟨o, h1, x, hx, h3⟩, h4, h5, h6⟩
    · exact W.own v (List.mem_cons_of_mem _ z), W.nd, W.mh⟩
theorem rt_close {q : Addr} {x : β} {y : α} (hx : good x) (h : RT K B Γ (⟨q, oEx r good, ()⟩ :: O) ra y D) : RT K B Γ (⟨q, r, x⟩ :: O) ra y D := fun v σ G H W => h v σ G H (W.close hx)
theorem s_close {q : Addr} {x : β} (hx : good x) (h : DS X K B Γ (⟨q, oEx r good, ()⟩ :: O) rest D) : DS X K B Γ (⟨q, r, x⟩ :: O) rest D := fun σ G H W => h σ G H (W.close hx)
end

/-! ### built-ins by name -/
theorem bt_abs : bootBuiltins "abs" = some (.builtin "abs") := by decide +kernel
theorem bt_len : bootBuiltins "len" = some (.builtin "len") := by decide +kernel
theorem bt_max : bootBuiltins "max" = some (.builtin "max") := by decide +kernel
theorem bt_min : bootBuiltins "min" = some (.builtin "min") := by decide +kernel
theorem bt_sum : bootBuiltins "sum" = some (.builtin "sum") := by decide +kernel
theorem bt_isi : bootBuiltins "isinstance" = some (.builtin "isinstance") := by decide +kernel
theorem bt_int : bootBuiltins "int" = some (.type "int") := by decide +kernel
theorem bt_bool : bootBuiltins "bool" = some (.type "bool") := by decide +kernel
theorem bt_str : bootBuiltins "str" = some (.type "str") := by decide +kernel
theorem bt_list : bootBuiltins "list" = some (.type "list") := by decide +kernel
theorem bt_tuple : bootBuiltins "tuple" = some (.type "tuple") := by decide +kernel
theorem bt_dict : bootBuiltins "dict" = some (.type "dict") := by decide +kernel
end Sk


set_option Elab.async false
set_option linter.all false
set_option maxRecDepth 100000
set_option maxHeartbeats 4100000
/-! Sk6: pure tests, pure comprehensions, promises by a function. -/
namespace Sk
open PySem L2 Evl
section
variable {ι : Type} {F : ι → Cx} {K : Fg} {B : Bs} {Γ : Gm} {O : List Own} {α β γ : Type} {ra : Rp α} {rb : Rp β} {rc : Rp γ} {a b c e elt tg iter : Expr} {es ifs : List Expr} {pos p : Pos} {n : Str} {scope : Scope}
variable {P : Program} {w : World} {mg : Str → Option Value} {base : Heap} {k : Nat}
/-! tests whose answer is known -/
theorem dt_notP {x : Bool} (h : DT F K B Γ O a fun t O' => t = x ∧ O' = O) : DT F K B Γ O (.UnaryOp .Not a pos) fun t O' => t = (!x) ∧ O' = O :=
  dt_not (dt_mono h fun t O' ⟨e1, e2⟩ => ⟨by rw [e1], e2⟩)
theorem dp_andP {x y : Bool} (h : DT F K B Γ O a fun t O' => t = x ∧ O' = O) (h2 : x = true → DP F K B Γ O (.BoolOp .And (b :: es) pos) fun t O' => t = y ∧ O' = O) : DP F K B Γ O (.BoolOp .And (a :: b :: es) pos) fun t O' => t = (x && y) ∧ O' = O := by
  refine dp_and (dt_mono h fun t O' ⟨e1, e2⟩ => ?_)
  subst e1 e2
  cases t with
  | true => exact ⟨fun _ => h2 rfl, fun z => Bool.noConfusion z⟩
  | false => exact ⟨fun z => Bool.noConfusion z, fun _ => ⟨rfl, rfl⟩⟩
theorem dp_orP {x y : Bool} (h : DT F K B Γ O a fun t O' => t = x ∧ O' = O) (h2 : x = false → DP F K B Γ O (.BoolOp .Or (b :: es) pos) fun t O' => t = y ∧ O' = O) : DP F K B Γ O (.BoolOp .Or (a :: b :: es) pos) fun t O' => t = (x || y) ∧ O' = O := by
  refine dp_or (dt_mono h fun t O' ⟨e1, e2⟩ => ?_)
  subst e1 e2
  cases t with
  | true => exact ⟨fun z => Bool.noConfusion z, fun _ => ⟨rfl, rfl⟩⟩
  | false => exact ⟨fun _ => h2 rfl, fun z => Bool.noConfusion z⟩
theorem d_notP {x : Bool} (h : DW F K B Γ O a rBool fun t O' => t = x ∧ O' = O) : DW F K B Γ O (.UnaryOp .Not a pos) rBool fun t O' => t = (!x) ∧ O' = O :=
  d_not (d_mono h fun t O' ⟨e1, e2⟩ => ⟨by rw [e1], e2⟩)
theorem d_andP {x y : Bool} (h : DW F K B Γ O a rBool fun t O' => t = x ∧ O' = O) (h2 : x = true → DW F K B Γ O (.BoolOp .And (b :: es) pos) rBool fun t O' => t = y ∧ O' = O) : DW F K B Γ O (.BoolOp .And (a :: b :: es) pos) rBool fun t O' => t = (x && y) ∧ O' = O := by
  refine d_and (d_mono h fun t O' ⟨e1, e2⟩ => ?_)
  subst e1 e2
  cases t with
  | true => exact ⟨fun _ => h2 rfl, fun z => Bool.noConfusion z⟩
  | false => exact ⟨fun z => Bool.noConfusion z, fun _ => ⟨rfl, rfl⟩⟩
theorem d_orP {x y : Bool} (h : DW F K B Γ O a rBool fun t O' => t = x ∧ O' = O) (h2 : x = false → DW F K B Γ O (.BoolOp .Or (b :: es) pos) rBool fun t O' => t = y ∧ O' = O) : DW F K B Γ O (.BoolOp .Or (a :: b :: es) pos) rBool fun t O' => t = (x || y) ∧ O' = O := by
  refine d_or (d_mono h fun t O' ⟨e1, e2⟩ => ?_)
  subst e1 e2
  cases t with
  | true => exact ⟨fun z => Bool.noConfusion z, fun _ => ⟨rfl, rfl⟩⟩
  | false => exact ⟨fun _ => h2 rfl, fun z => Bool.noConfusion z⟩
theorem dt_chainP {op op' : CmpOp} {x y : Bool} (h : DW F K B Γ O a ra fun u O1 => DW F K B Γ O1 b rb fun v O2 => OW F K B Γ O2 (compareOp op) ra rb u v rBool fun z O3 =>
      z = x ∧ O3 = O ∧ (x = true → DW F K B Γ O c rc fun q O4 => OW F K B Γ O4 (compareOp op') rb rc v q rBool fun t O' => t = y ∧ O' = O))
    (hm : lastMarks [op, op'] [b, c] = false := by with_unfolding_all rfl) : DT F K B Γ O (.Compare a [op, op'] [b, c] pos) fun t O' => t = (x && y) ∧ O' = O := by
  refine dt_chain (rb := rb) (rc := rc) (d_mono h fun u O1 h1 => d_mono h1 fun v O2 h2 => fun σ G H vv ww W r1 r2 Q q => h2 σ G H vv ww W r1 r2 Q fun z O3 u' G' H' ⟨e1, e2, e3⟩ W' ex r => q z O3 u' G' H' ?_ W' ex r) hm
  subst e1 e2
  cases z with
  | true => exact ⟨fun _ => e3 rfl, fun z => Bool.noConfusion z⟩
  | false => exact ⟨fun z => Bool.noConfusion z, fun _ => ⟨rfl, rfl⟩⟩
theorem d_chainP {op op' : CmpOp} {x y : Bool} (h : DW F K B Γ O a ra fun u O1 => DW F K B Γ O1 b rb fun v O2 => OW F K B Γ O2 (compareOp op) ra rb u v rBool fun z O3 =>
      z = x ∧ O3 = O ∧ (x = true → DW F K B Γ O c rc fun q O4 => OW F K B Γ O4 (compareOp op') rb rc v q rBool fun t O' => t = y ∧ O' = O))
    (hm : lastMarks [op, op'] [b, c] = false := by with_unfolding_all rfl) : DW F K B Γ O (.Compare a [op, op'] [b, c] pos) rBool fun t O' => t = (x && y) ∧ O' = O := by
  refine d_chain (rb := rb) (rc := rc) (d_mono h fun u O1 h1 => d_mono h1 fun v O2 h2 => fun σ G H vv ww W r1 r2 Q q => h2 σ G H vv ww W r1 r2 Q fun z O3 u' G' H' ⟨e1, e2, e3⟩ W' ex r => q z O3 u' G' H' ?_ W' ex r) hm
  subst e1 e2
  cases z with
  | true => exact ⟨fun _ => e3 rfl, fun z => Bool.noConfusion z⟩
  | false => exact ⟨fun z => Bool.noConfusion z, fun _ => ⟨rfl, rfl⟩⟩
/-- a known value goes on -/
theorem d_then {x : α} {Φ : α → List Own → Prop} (h : DW F K B Γ O e ra fun t O' => t = x ∧ O' = O) (q : Φ x O) : DW F K B Γ O e ra Φ := d_mono h fun t O' ⟨e1, e2⟩ => by
  subst e1 e2
  exact q
theorem dt_then {x : Bool} {Φ : Bool → List Own → Prop} (h : DT F K B Γ O e fun t O' => t = x ∧ O' = O) (q : Φ x O) : DT F K B Γ O e Φ := dt_mono h fun t O' ⟨e1, e2⟩ => by
  subst e1 e2
  exact q
theorem d_iteP {x : Bool} {Φ : α → List Own → Prop} (h : DT F K B Γ O c fun t O' => t = x ∧ O' = O) (h1 : x = true → DW F K B Γ O a ra Φ) (h2 : x = false → DW F K B Γ O b ra Φ) : DW F K B Γ O (.IfExp c a b pos) ra Φ :=
  d_ite (dt_then h ⟨h1, h2⟩)
/-! pure comprehensions -/
theorem take_snoc {α : Type} {l : List α} {i : Nat} {x : α} (h : l[i]? = some x) : l.take (i + 1) = l.take i ++ [x] := by
  rw [List.take_add_one, h]
  rfl
theorem d_lcF [fam : Fam F P w K mg base k] (own : List (Str × Nat)) (vs : List Nat) (ok : ∀ i, BlkOk (F i).N (F i).env.scope scope own) {Γ' : Gm} [hw : WipeG Γ vs Γ'] {js : List Nat} {f : α → β} {g : α → Bool} {Φ : List β → List Own → Prop}
    (h : DI F K B Γ O tg iter ra fun xs O1 => O1 = O ∧ xs.length ≤ sizeLine ∧
      (∀ gg D ys x, x ∈ xs → DG (blkF F scope) K (B.push gg) Γ' (⟨D, oLst rb, ys⟩ :: O) tg ra x js fun Γ2 => DTs (blkF F scope) K (B.push gg) Γ2 (⟨D, oLst rb, ys⟩ :: O) ifs fun t O2 =>
        t = g x ∧ O2 = ⟨D, oLst rb, ys⟩ :: O ∧ (g x = true → DW (blkF F scope) K (B.push gg) Γ2 (⟨D, oLst rb, ys⟩ :: O) elt rb fun y O3 => y = f x ∧ O3 = ⟨D, oLst rb, ys⟩ :: O)) ∧
      Φ ((xs.filter g).map f) O)
    (hv : own.map (·.2) = vs := by rfl) (hjs : ∀ j ∈ js, j ∈ vs := by decide) (hs : ∀ i x, foldedSetIterable iter (F i).env x = pure x := by intro _ _; rfl) :
    DW F K B Γ O (.ListComp elt [⟨tg, iter, ifs, 0⟩] scope pos) (rLst rb) Φ := by
  refine d_frzE (d_lcO (ra := ra) (rb := rb) own vs ok ?_ hv hjs hs)
  intro σ G H W R q
  refine h σ G H W R fun xs J O1 G1 H1 ⟨e1, hl, ht, hd⟩ gv W1 ee => q xs J O1 G1 H1 ⟨Unit, fun i ys _ => i ≤ xs.length ∧ ys = ((xs.take i).filter g).map f, fun _ => O, ⟨(), ⟨Nat.zero_le _, rfl⟩, e1⟩, fun gg D i x ys d hx ⟨hi, hy⟩ => ?_, fun D ys d hM ⟨_, hy⟩ => ?_⟩ gv W1 ee
  · have hlt : i < xs.length := (List.getElem?_eq_some_iff.mp hx).1
    have hmem := List.mem_of_getElem? hx
    have hlen : ys.length ≤ i := by
      rw [hy, List.length_map]
      refine Nat.le_trans (List.length_filter_le _ _) ?_
      rw [List.length_take]
      exact Nat.min_le_left _ _
    intro σ2 G2 H2 v W2 r2 Q2 q2
    refine ht gg D ys x hmem σ2 G2 H2 v W2 r2 Q2 fun Γ2 σ' p W' wp => q2 Γ2 σ' (fun σ3 G3 H3 W3 Q3 q3 => p σ3 G3 H3 W3 Q3 fun t O2 G4 H4 ⟨p1, p2, p3⟩ W4 e4 => q3 t O2 G4 H4 ?_ W4 e4) W' wp
    subst p1 p2
    refine ⟨fun ht => d_mono (p3 ht) fun y O3 ⟨z1, z2⟩ => ⟨(), z2, by omega, hlt, ?_⟩, fun ht => ⟨(), rfl, hlt, ?_⟩⟩
    · rw [take_snoc hx, List.filter_append, List.map_append, ← hy, z1]
      congr 1
      simp [ht]
    · rw [take_snoc hx, List.filter_append, List.map_append, ← hy]
      simp [ht]
  · rw [List.take_length] at hy
    subst hy
    exact ⟨_, _, rfl, hM, hd⟩
/-- without a test -/
theorem d_lcP [fam : Fam F P w K mg base k] (own : List (Str × Nat)) (vs : List Nat) (ok : ∀ i, BlkOk (F i).N (F i).env.scope scope own) {Γ' : Gm} [hw : WipeG Γ vs Γ'] {js : List Nat} {f : α → β} {Φ : List β → List Own → Prop}
    (h : DI F K B Γ O tg iter ra fun xs O1 => O1 = O ∧ xs.length ≤ sizeLine ∧
      (∀ gg D ys x, x ∈ xs → DG (blkF F scope) K (B.push gg) Γ' (⟨D, oLst rb, ys⟩ :: O) tg ra x js fun Γ2 =>
        DW (blkF F scope) K (B.push gg) Γ2 (⟨D, oLst rb, ys⟩ :: O) elt rb fun y O3 => y = f x ∧ O3 = ⟨D, oLst rb, ys⟩ :: O) ∧ Φ (xs.map f) O)
    (hv : own.map (·.2) = vs := by rfl) (hjs : ∀ j ∈ js, j ∈ vs := by decide) (hs : ∀ i x, foldedSetIterable iter (F i).env x = pure x := by intro _ _; rfl) :
    DW F K B Γ O (.ListComp elt [⟨tg, iter, [], 0⟩] scope pos) (rLst rb) Φ := by
  refine d_lcF (ra := ra) (f := f) (g := fun _ => true) own vs ok ?_ hv hjs hs
  intro σ G H W R q
  refine h σ G H W R fun xs J O1 G1 H1 ⟨e1, hl, ht, hd⟩ gv W1 ee => q xs J O1 G1 H1 ⟨e1, hl, fun gg D ys x hx σ2 G2 H2 v W2 r2 Q2 q2 => ht gg D ys x hx σ2 G2 H2 v W2 r2 Q2 fun Γ2 σ' p W' wp => q2 Γ2 σ' (dts_nil ⟨rfl, rfl, fun _ => p⟩) W' wp, ?_⟩ gv W1 ee
  have e : xs.filter (fun _ => true) = xs := List.filter_eq_self.mpr fun _ _ => rfl
  rw [e]
  exact hd
end

/-! ### promises by a function; promises that keep their own object -/
section
variable {K : Fg} {B : Bs} {Γ : Gm} {O : List Own} {α β γ : Type} {ra : RpF α} {rb : Rp β} {pre : α → Prop} {T : List Addr}
abbrev spF (K : Fg) (T : List Addr) (ra : RpF α) (pre : α → Prop) (r : Rp β) (f : α → β) : Sp := sp0 K T ra pre r fun x y => y = f x
theorem sw_f {x : α} {f : α → β} {Φ : β → List Own → Prop} (hp : pre x) (h : Φ (f x) O) (hT : ∀ P ∈ T, P ∈ B.T := by first | exact fun _ h => h | (intro _ h; cases h)) : SW K B Γ O (spF K T ra pre rb f) [] ra x rb Φ :=
  sw_0 hp (fun y e => by subst e; exact h) hT
theorem ndm {α : Type} {a : α} {l r : List α} : (l ++ a :: r).Nodup ↔ ([a] ++ (l ++ r)).Nodup := List.perm_middle.nodup_iff
/-- one own object, kept as it is told -/
abbrev sp1 (K : Fg) (T : List Addr) (ra : RpF α) (pre : α → Prop) (own : α → Own) (r : Rp β) (post : α → β → Prop) : Sp := spM K T ra pre (fun x => [own x]) r fun x y O' => O' = [own x] ∧ post x y
theorem sw_1 {x : α} {q : Addr} {δ : Type} {r : Ow δ} {d : δ} {f : Own → List Own} {own : α → Own} {post : α → β → Prop} {Φ : β → List Own → Prop} [ho : OwnAt O q r d f] (hp : pre x) (h : ∀ y, post x y → Φ y O) (e : own x = ⟨q, r, d⟩ := by rfl)
    (hT : ∀ P ∈ T, P ∈ B.T := by first | exact fun _ h => h | (intro _ h; cases h)) : SW K B Γ O (sp1 K T ra pre own rb post) [] ra x rb Φ := by
  obtain ⟨j, h1, _⟩ := ho.at_
  have hl : j < O.length := (List.getElem?_eq_some_iff.mp h1).1
  have hg : O[j] = own x := by
    rw [e]
    exact (List.getElem?_eq_some_iff.mp h1).2
  intro σ G H vs W rv Q q'
  have split : O = O.take j ++ own x :: O.drop (j + 1) := by
    rw [← hg]
    exact (List.take_append_drop j O).symm.trans (by rw [List.drop_eq_getElem_cons hl])
  have perm : ∀ v, v ∈ [own x] ++ (O.take j ++ O.drop (j + 1)) ↔ v ∈ O := fun v => by
    have e2 : v ∈ O ↔ v ∈ O.take j ++ own x :: O.drop (j + 1) := by rw [← split]
    rw [e2]
    simp only [List.mem_append, List.mem_cons, List.not_mem_nil, or_false]
    constructor
    · rintro (z | z | z)
      · exact .inr (.inl z)
      · exact .inl z
      · exact .inr (.inr z)
    · rintro (z | z | z)
      · exact .inr (.inl z)
      · exact .inl z
      · exact .inr (.inr z)
  have nd1 : (O.map (·.a)).Nodup → (([own x] ++ (O.take j ++ O.drop (j + 1))).map (·.a)).Nodup := fun z => by
    have e2 : O.map (·.a) = (O.take j).map (·.a) ++ (own x).a :: (O.drop (j + 1)).map (·.a) := by
      have e3 := congrArg (List.map (·.a)) split
      rw [List.map_append, List.map_cons] at e3
      exact e3
    rw [e2] at z
    rw [List.map_append, List.map_append]
    exact ndm.mp z
  have nd2 : (([own x] ++ (O.take j ++ O.drop (j + 1))).map (·.a)).Nodup → (O.map (·.a)).Nodup := fun z => by
    have e2 : O.map (·.a) = (O.take j).map (·.a) ++ (own x).a :: (O.drop (j + 1)).map (·.a) := by
      have e3 := congrArg (List.map (·.a)) split
      rw [List.map_append, List.map_cons] at e3
      exact e3
    rw [e2]
    rw [List.map_append, List.map_append] at z
    exact ndm.mpr z
  exact sw_m (Φ := fun y O' => Φ y O ∧ O' = [own x] ++ (O.take j ++ O.drop (j + 1))) (O.take j ++ O.drop (j + 1)) hp (fun v hv => (perm v).mp hv) nd1 (fun y O' ⟨e2, p⟩ => ⟨h y p, by rw [e2]⟩) hT σ G H vs W rv Q fun z O' u G' H' ⟨k1, k2⟩ W' e' r' => q' z O u G' H' k1 (by
    subst k2
    exact W'.perm (fun v hv => (perm v).mpr hv) nd2) e' r'
end

/-! ### statements -/
section
variable {X : Cx} {K : Fg} {B : Bs} {Γ Γ' : Gm} {O O' : List Own} {α β : Type} {ra : Rp α} {D D0 : Ends} {e c : Expr} {rest sa sb : List Stmt} {n : Str} {pos p apos : Pos}
variable {P : Program} {w : World} {mg : Str → Option Value} {base : Heap} {k : Nat}
theorem s_ifP {x : Bool} (h : DT (Us X) K B Γ O c fun t O' => t = x ∧ O' = O) (h1 : x = true → DS X K B Γ O sa { D with nx := WSs X rest D }) (h2 : x = false → DS X K B Γ O sb { D with nx := WSs X rest D }) : DS X K B Γ O (.If c sa sb pos :: rest) D :=
  s_if (dt_then h ⟨h1, h2⟩)
/-- wanted less -/
structure EndsLe (D0 D : Ends) : Prop where
  nx : ∀ σ H, D0.nx σ H → D.nx σ H
  rt : ∀ v H, D0.rt v H → D.rt v H
  bk : ∀ σ H, D0.bk σ H → D.bk σ H
  ct : ∀ σ H, D0.ct σ H → D.ct σ H
theorem WSs.mono {st : List Stmt} {σ : St} {H : Hp} (le : EndsLe D0 D) (h : WSs X st D0 σ H) : WSs X st D σ H := by
  obtain ⟨t, p, q⟩ := h
  refine ⟨fun D σ H => ∃ D0, t D0 σ H ∧ EndsLe D0 D, ⟨fun pins s σ H D I ⟨D0, q, le⟩ => thn (p.run pins s σ H D0 I q) fun f s' sp => ?_⟩, D0, q, le⟩
  cases f with
  | next =>
    obtain ⟨σ', H', I', z⟩ := sp
    exact ⟨σ', H', I', le.nx _ _ z⟩
  | brk =>
    obtain ⟨σ', H', I', z⟩ := sp
    exact ⟨σ', H', I', le.bk _ _ z⟩
  | cont =>
    obtain ⟨σ', H', I', z⟩ := sp
    exact ⟨σ', H', I', le.ct _ _ z⟩
  | ret u =>
    obtain ⟨v, σ', H', I', r, z⟩ := sp
    exact ⟨v, σ', H', I', r, le.rt _ _ z⟩
/-- the ways behind an if meet: d with Pv -/
theorem s_ifJ {x : Bool} {δ : Type} (Pv : δ → Prop) (Γf : δ → Gm) (Of : δ → List Own) (h : DT (Us X) K B Γ O c fun t O' => t = x ∧ O' = O) (h1 : x = true → DS X K B Γ O sa { D with nx := LpJ K B Pv Γf Of }) (h2 : x = false → DS X K B Γ O sb { D with nx := LpJ K B Pv Γf Of })
    (h3 : ∀ d, Pv d → DS X K B (Γf d) (Of d) rest D) : DS X K B Γ O (.If c sa sb pos :: rest) D := by
  intro σ G H W
  refine WSs.cons (ps_if (tc := WT (Us X) c) (WT.pt (F := Us X) ()) WSs.pss WSs.pss) ?_
  have key : ∀ {σ' : St} {H' : Hp}, LpJ K B Pv Γf Of σ' H' → WSs X rest D σ' H' := fun {σ' H'} ⟨d, G', pd, W'⟩ => h3 d pd σ' G' H' W'
  refine h σ G H W _ fun b O' G' H' ⟨e1, e2⟩ W' _ => ?_
  subst e1 e2
  cases b with
  | true => exact WSs.mono (D0 := { D with nx := LpJ K B Pv Γf Of }) ⟨fun _ _ z => key z, fun _ _ z => z, fun _ _ z => z, fun _ _ z => z⟩ (h1 rfl σ G' H' W')
  | false => exact WSs.mono (D0 := { D with nx := LpJ K B Pv Γf Of }) ⟨fun _ _ z => key z, fun _ _ z => z, fun _ _ z => z, fun _ _ z => z⟩ (h2 rfl σ G' H' W')
theorem s_ifJE {δ : Type} (Pv : δ → Prop) (Γf : δ → Gm) (Of : δ → List Own) (h : DT (Us X) K B Γ O c fun t O' => (t = true → DS X K B Γ O' sa { D with nx := LpJ K B Pv Γf Of }) ∧ (t = false → DS X K B Γ O' sb { D with nx := LpJ K B Pv Γf Of }))
    (h3 : ∀ d, Pv d → DS X K B (Γf d) (Of d) rest D) : DS X K B Γ O (.If c sa sb pos :: rest) D := by
  intro σ G H W
  refine WSs.cons (ps_if (tc := WT (Us X) c) (WT.pt (F := Us X) ()) WSs.pss WSs.pss) ?_
  have key : ∀ {σ' : St} {H' : Hp}, LpJ K B Pv Γf Of σ' H' → WSs X rest D σ' H' := fun {σ' H'} ⟨d, G', pd, W'⟩ => h3 d pd σ' G' H' W'
  refine h σ G H W _ fun b O' G' H' kk W' _ => ?_
  cases b with
  | true => exact WSs.mono (D0 := { D with nx := LpJ K B Pv Γf Of }) ⟨fun _ _ z => key z, fun _ _ z => z, fun _ _ z => z, fun _ _ z => z⟩ (kk.1 rfl σ G' H' W')
  | false => exact WSs.mono (D0 := { D with nx := LpJ K B Pv Γf Of }) ⟨fun _ _ z => key z, fun _ _ z => z, fun _ _ z => z, fun _ _ z => z⟩ (kk.2 rfl σ G' H' W')
/-- the end of a way that meets others -/
theorem s_join {δ : Type} {Pv : δ → Prop} {Γf : δ → Gm} {Of : δ → List Own} (d : δ) (h : Pv d) (hw : Wk Γ (Γf d)) (ho : O = Of d) : DS X K B Γ O [] { D with nx := LpJ K B Pv Γf Of } :=
  s_nil fun σ G H W => ⟨d, G, h, by rw [← ho]; exact W.wk hw⟩
end
end Sk


set_option Elab.async false
set_option linter.all false
set_option maxRecDepth 100000
set_option maxHeartbeats 4100000
/-! Sk7: displays of dicts by written keys, more bounds. -/
namespace Sk
open PySem L2 Evl
theorem valV_none {kvs : List (Key × V)} {k : Key} (h : k ∉ kvs.map (·.1)) : valV kvs k = none := by
  induction kvs with
  | nil => rfl
  | cons p r ih =>
    rw [List.map_cons, List.mem_cons, not_or] at h
    rw [valV_neg (fun z => h.1 z.symm)]
    exact ih h.2
theorem merge_new : ∀ (more acc : List (Key × V)), ((acc ++ more).map (·.1)).Nodup → mergeK acc more = acc ++ more
  | [], acc, _ => by simp [mergeK]
  | p :: r, acc, h => by
    have h2 : ((acc ++ [p] ++ r).map (·.1)).Nodup := by rw [List.append_assoc]; exact h
    have hn : p.1 ∉ acc.map (·.1) := by
      rw [List.map_append, List.map_cons] at h
      intro z
      exact (List.nodup_append.mp h).2.2 _ z _ List.mem_cons_self rfl
    show mergeK (putK acc p.1 p.2) r = acc ++ p :: r
    rw [putK_new _ (valV_none hn), merge_new r _ h2, List.append_assoc]
    rfl
theorem zipK_keys {ns : List Str} {vs : List V} (h : vs.length = ns.length) : (zipK ns vs).map (·.1) = ns.map Sum.inr := by
  unfold zipK
  rw [List.map_fst_zip]
  rw [List.length_map, h]
  exact Nat.le_refl _
theorem merge_zip {ns : List Str} {vs : List V} (hn : ns.Nodup) (h : vs.length = ns.length) : mergeK [] (zipK ns vs) = zipK ns vs := by
  refine merge_new _ _ ?_
  rw [List.nil_append, zipK_keys h]
  clear h
  induction ns with
  | nil => exact List.nodup_nil
  | cons a r ih =>
    rw [List.map_cons]
    refine List.nodup_cons.mpr ⟨fun z => ?_, ih (List.nodup_cons.mp hn).2⟩
    obtain ⟨b, hb, eb⟩ := List.mem_map.mp z
    have eb' : b = a := Sum.inr.inj eb
    exact (List.nodup_cons.mp hn).1 (eb' ▸ hb)
section
variable {ι : Type} {F : ι → Cx} {K : Fg} {B : Bs} {Γ : Gm} {O : List Own} {α β γ : Type} {ra : Rp α} {rb : Rp β} {e : Expr} {es : List Expr} {pos : Pos} {ns : List Str}
def oNil : Ow Unit := ⟨fun _ _ o _ => o = .dK [], fun _ h => h⟩
/-- the values of a display, from the left -/
def DDs (F : ι → Cx) (K : Fg) (B : Bs) (Γ : Gm) (O : List Own) (kes : List (Str × Expr)) (f : RpF α) (Φ : α → List Own → Prop) : Prop :=
  ∀ σ G H, Ws K B Γ O σ G H → ∀ Q : List (V × V) → Hp → Prop, (∀ x O' vs G' H', Φ x O' → Ws K B Γ O' σ G' H' → Ex G G' → f.rep K G' vs x → vs.length = kes.length → Q ((kes.map fun p => V.str p.1).zip vs) H') → tPairs (kes.map fun p => (tC (.str p.1), WE F p.2)) σ H Q
theorem dd_one {key : Str} {Φ : α → List Own → Prop} (h : DW F K B Γ O e ra Φ) : DDs F K B Γ O [(key, e)] (fOne ra) Φ := by
  intro σ G H W Q q
  show WE F e σ H _
  exact h σ G H W _ fun x O1 v G1 H1 k W1 e1 r1 => q x O1 [v] G1 H1 k W1 e1 ⟨v, rfl, r1⟩ rfl
theorem dd_cons {key : Str} {kes : List (Str × Expr)} {f : RpF β} {Φ : α × β → List Own → Prop} (h : DW F K B Γ O e ra fun x O1 => DDs F K B Γ O1 kes f fun y O2 => Φ (x, y) O2) : DDs F K B Γ O ((key, e) :: kes) (fCons ra f) Φ := by
  intro σ G H W Q q
  show WE F e σ H _
  refine h σ G H W _ fun x O1 v G1 H1 k W1 e1 r1 => ?_
  exact k σ G1 H1 W1 _ fun y O2 vs G2 H2 k2 W2 e2 r2 hl => q (x, y) O2 (v :: vs) G2 H2 k2 W2 (e1.trans e2) ⟨v, vs, rfl, ra.mono e2 r1, r2⟩ (by rw [List.length_cons, List.length_cons, hl])
/-- {'key': e, ..}: a new dict of one's own -/
theorem d_disp {keys : List (Option Expr)} {f : RpF α} {Φ : Addr → List Own → Prop} (hn : ns.Nodup) (hp : ∀ i, PPs (F i) pos keys es ((ns.zip es).map fun p => (tC (.str p.1), WE F p.2)))
    (h : ∀ p, p ∉ B.M → DDs F K B Γ (⟨p, oNil, ()⟩ :: O) (ns.zip es) f fun x O1 => ∃ O2, O1 = ⟨p, oNil, ()⟩ :: O2 ∧ Φ p (⟨p, oRec ns f, x⟩ :: O2))
    (hall : keys.all (·.isSome) = true := by rfl) (hl : keys.length = es.length := by rfl) (h0 : keys ≠ [] := by simp) (h15 : keys.length ≤ 15 := by decide) (hk : es.length = ns.length := by rfl) : DW F K B Γ O (.Dict keys es pos) rAdr Φ := by
  intro σ G H W Q q
  refine ⟨_, fun i => pe_disp (hp i) hall hl h0 h15, ?_⟩
  intro p hp'
  refine h p (W.notM hp') σ G _ (W.newOwn hp' (r := oNil) (x := ()) rfl) _ fun x O1 vs G1 H1 ⟨O2, e1, kk⟩ W1 ex r1 hlen => ?_
  subst e1
  obtain ⟨⟨o, h1, h2⟩, _⟩ := W1.own _ List.mem_cons_self
  have h2' : o = .dK [] := h2
  subst h2'
  have hz : (ns.zip es).length = ns.length := by rw [List.length_zip, hk, Nat.min_self]
  have hlen2 : vs.length = ns.length := by rw [hlen, hz]
  refine ⟨h1, zipK ns vs, ?_, ?_, q p _ (.ref p) G1 _ kk (W1.mutHd (r' := oRec ns f) (x' := x) ⟨vs, congrArg HO.dK (merge_zip hn hlen2), r1⟩) ex rfl⟩
  · have e2 : ∀ (ks : List (Str × Expr)) (ws : List V), (ks.map fun p => V.str p.1).zip ws = (zipK (ks.map (·.1)) ws).map fun kv => (kV kv.1, kv.2) := by
      intro ks
      induction ks with
      | nil => intro ws; rfl
      | cons a r ih =>
        intro ws
        cases ws with
        | nil => rfl
        | cons b ws =>
          show (V.str a.1, b) :: _ = (kV (Sum.inr a.1), b) :: _
          exact congrArg _ (ih ws)
    have e3 : (ns.zip es).map (·.1) = ns := List.map_fst_zip (by rw [hk]; exact Nat.le_refl _)
    have e4 := e2 (ns.zip es) vs
    rw [e3] at e4
    exact e4
  · unfold zipK
    rw [List.length_zip, hlen2, List.length_map, Nat.min_self, ← hk, ← hl]
    exact h15
end
/-! a promise of a new own object -/
section
variable {K : Fg} {B : Bs} {Γ : Gm} {O : List Own} {α β δ : Type} {ra : RpF α} {pre : α → Prop} {T : List Addr} {r' : Ow δ} {post : α → δ → Prop}
abbrev spN (K : Fg) (T : List Addr) (ra : RpF α) (pre : α → Prop) (r' : Ow δ) (post : α → δ → Prop) : Sp := spM K T ra pre (fun _ => []) rAdr fun x q O' => ∃ d, post x d ∧ O' = [⟨q, r', d⟩]
theorem sw_n {x : α} {Φ : Addr → List Own → Prop} (hp : pre x) (h : ∀ q d, post x d → Φ q (⟨q, r', d⟩ :: O)) (hT : ∀ P ∈ T, P ∈ B.T := by first | exact fun _ h => h | (intro _ h; cases h)) : SW K B Γ O (spN K T ra pre r' post) [] ra x rAdr Φ :=
  sw_m O hp (fun w hw => hw) (fun z => z) (fun q O' ⟨d, p, e⟩ => by subst e; exact h q d p) hT
end
/-! bounds -/
class Sm (x : Int) : Prop where
  lt : x.natAbs < 2 ^ 8000
theorem smOk {k : Nat} {x : Int} [h : Bd k x] (hk : k ≤ 8000 := by decide) : Sm x := ⟨(h.mono hk).lt⟩
theorem Sm.bd {x : Int} (h : Sm x) : Bd 8000 x := ⟨h.lt⟩
theorem bd_lt {k : Nat} {x b : Int} [h : Bd k b] (h0 : 0 ≤ x) (h1 : x < b) : Bd k x := ⟨Nat.lt_of_le_of_lt (by omega) h.lt⟩
theorem bd_len {α : Type} {xs : List α} (h : xs.length ≤ sizeLine) : Bd 25 (xs.length : Int) := Bd.of (by omega) (by
  have e : sizeLine ≤ 2 ^ 24 := by decide
  omega)
theorem mod_rng (x : Int) {y : Int} (h : 0 < y) : 0 ≤ x % y ∧ x % y < y := ⟨Int.emod_nonneg x (by omega), Int.emod_lt_of_pos x h⟩
theorem atI_lt {α : Type} {xs : List α} {i : Int} (h0 : 0 ≤ i) (h1 : i < (xs.length : Int)) : ∃ x, atI xs i = some x ∧ x ∈ xs ∧ xs[i.toNat]? = some x := by
  have hl : i.toNat < xs.length := by omega
  refine ⟨xs[i.toNat], ?_, List.getElem_mem hl, List.getElem?_eq_getElem hl⟩
  unfold atI
  rw [atI_ok h0 (by omega)]
  exact List.getElem?_eq_getElem hl
theorem atI_getD {α : Type} {xs : List α} {i : Int} (d : α) (h0 : 0 ≤ i) (h1 : i < (xs.length : Int)) : atI xs i = some (xs.getD i.toNat d) := by
  obtain ⟨x, h, _, h2⟩ := atI_lt h0 h1
  rw [h, List.getD_eq_getElem?_getD, h2]
  rfl
end Sk
namespace Sk
open PySem L2 Evl
theorem rt_drop {K : Fg} {B : Bs} {Γ : Gm} {O : List Own} {α : Type} {r : Rp α} {x : α} {D : Ends} (h : RT K B Γ [] r x D) : RT K B Γ O r x D := fun v σ G H W => h v σ G H (W.perm (fun _ z => absurd z (by simp)) fun _ => List.nodup_nil)
theorem rgI_item {lo c : Int} {m i : Nat} {x : Int} (h : (rgI lo c m)[i]? = some x) : i < m ∧ x = lo + (i : Int) * c := by
  have hl := (List.getElem?_eq_some_iff.mp h).1
  rw [rgI_len] at hl
  rw [rgI_get hl] at h
  exact ⟨hl, (Option.some.inj h).symm⟩
/-- a module's whole number -/
theorem d_globI {ι : Type} {F : ι → Cx} {K : Fg} {B : Bs} {Γ : Gm} {O : List Own} {P : Program} {w : World} {mg : Str → Option Value} {base : Heap} {k : Nat} {n : Str} {pos : Pos} [fam : Fam F P w K mg base k] {i : Int} {t : Tok} {Φ : Int → List Own → Prop} (hm : mg n = some (.int i t)) (q : Φ i O)
    (hg : ∀ j, Gl (F j) n := by intro _; rfl) (hd : (n == ("__debug__" : Str)) = false := by decide) : DW F K B Γ O (.Name n pos) rInt Φ := d_glob (v := .int i) hm ⟨t, rfl⟩ (fun _ => rfl) q hg hd
theorem isi_int_int : kitB "int" "int" = some true := by decide +kernel
theorem isi_int_bool : kitB "int" "bool" = some false := by decide +kernel
theorem isi_bool_bool : kitB "bool" "bool" = some true := by decide +kernel
theorem isi_bool_int : kitB "bool" "int" = some true := by decide +kernel
theorem isi_list_list : kitB "list" "list" = some true := by decide +kernel
theorem isi_tuple_tuple : kitB "tuple" "tuple" = some true := by decide +kernel
theorem isi_str_str : kitB "str" "str" = some true := by decide +kernel
end Sk


set_option Elab.async false
set_option linter.all false
set_option maxRecDepth 100000
set_option maxHeartbeats 4100000
/-! Sk8: built-in functions by a module's name; math.isqrt. -/
namespace Sk
open PySem L2 Evl
section
variable {ι : Type} {F : ι → Cx} {K : Fg} {B : Bs} {Γ : Gm} {O : List Own} {α β γ : Type} {ra : Rp α} {rb : Rp β} {rc : Rp γ} {e : Expr} {es : List Expr} {pos p : Pos} {n : Str}
variable {P : Program} {w : World} {mg : Str → Option Value} {base : Heap} {k : Nat}
theorem d_callG [fam : Fam F P w K mg base k] {id : String} {g : RpF α} {Φ : γ → List Own → Prop} (hm : mg n = some (.builtin id)) (h : DA F K B Γ O (e :: es) g fun x O1 => CW F K B Γ O1 (.builtin id) g x rc Φ)
    (hg : ∀ i, Gl (F i) n := by intro _; rfl) (hdb : (n == ("__debug__" : Str)) = false := by decide)
    (he : ∀ i, starEach (e :: es) (F i).env = (false, eval e (F i).env) :: starEach es (F i).env := by intro _; rfl) (hpl : ∀ i, (backTo pos (starEach es (F i).env)).any (·.1) = false := by intro _; rfl) :
    DW F K B Γ O (.Call (.Name n p) (e :: es) [] pos) rc Φ := by
  intro σ G H W Q q
  refine ⟨_, fun i => pe_callBfun (wCl.cl i) (hg i) (by rw [fam.mg i]; exact hm) (WA.pa i) hdb (he i) (hpl i), ?_⟩
  refine h σ G H W _ fun x O1 vs G1 H1 k W1 e1 r1 => ?_
  exact k σ G1 H1 vs W1 r1 Q fun z O' u G2 H2 k2 W2 e2 r2 => q z O' u G2 H2 k2 W2 (e1.trans e2) r2
/-- the root, rounded down -/
def sqr (x : Int) : Int := (Float64.isqrt x.toNat : Nat)
theorem sqr_ok {x : Int} (h : 0 ≤ x) : 0 ≤ sqr x ∧ sqr x * sqr x ≤ x ∧ x < (sqr x + 1) * (sqr x + 1) := by
  obtain ⟨n, rfl⟩ := Int.eq_ofNat_of_zero_le h
  obtain ⟨h1, h2⟩ := Float64.isqrt_spec n
  unfold sqr
  rw [Int.toNat_natCast]
  exact ⟨Int.natCast_nonneg _, by exact_mod_cast h1, by exact_mod_cast h2⟩
def rSqrt : List V → Hp → VK → Prop := fun vs H Q => ∃ a : Int, vs = [.int a] ∧ (0 ≤ a ∧ a.toNat.log2 ≤ 13000) ∧ Q (.int (sqr a)) H
theorem cr_sqrt {X : Cx} : CallR X (.builtin "math.isqrt") rSqrt := by
  intro pins s σ H vs us Q I r h
  obtain ⟨a, rfl, ⟨h0, h1⟩, q⟩ := h
  obtain ⟨u, rfl, t, rfl⟩ := vals1 r
  exact call_function_meets PySem.W.MGF.kind_isqrt PySem.W.MGF.plain_isqrt PySem.W.MGF.entry_isqrt (PySem.W.MGF.args_isqrt _) (PySem.W.mg_run_isqrt a t (by omega) (by omega) (by omega)).meets ⟨.int _, H, I.tok _, ⟨_, rfl⟩, q⟩
theorem c_sqrt {x : Int} {b : Nat} [hb : Bd b x] {Φ : Int → List Own → Prop} (h0 : 0 ≤ x) (k : Φ (sqr x) O) (h1 : b ≤ 13000 := by decide) : CW F K B Γ O (.builtin "math.isqrt") (fOne rInt) x rInt Φ :=
  fun σ G H vs W ⟨v, e, rv⟩ Q q => ⟨_, fun _ => cr_sqrt, x, by rw [e, show v = V.int x from rv], ⟨h0, by
    have := log2_le hb
    rw [show x.natAbs = x.toNat by omega] at this
    omega⟩, q _ O _ G H k W (Ex.refl _) rfl⟩
end
end Sk


set_option Elab.async false
set_option linter.all false
set_option maxRecDepth 100000
set_option maxHeartbeats 4100000
/-! Sk9: deep equality, max and min of a list, len of a tuple, slices. -/
namespace Sk
open PySem L2 Evl
/-! ### data that == looks into -/
class Dat {α : Type} (r : Rp α) (enc : outParam (α → PyData)) (n : outParam Nat) (good : outParam (α → Prop)) : Prop where
  dp : ∀ {K : Fg} {G H : Hp} {v : V} {x : α}, Ex G H → r.rep K G v x → Dp K H v (enc x)
  lay : ∀ {x}, good x → PyData.canLay0 (enc x) = true
  dep : ∀ x, (enc x).depth ≤ n
  eqv : ∀ x y, PyData.eqv (enc x) (enc y) = true ↔ x = y
class DatF {α : Type} (f : RpF α) (enc : outParam (α → List PyData)) (n : outParam Nat) (good : outParam (α → Prop)) : Prop where
  dp : ∀ {K : Fg} {G H : Hp} {vs : List V} {x : α}, Ex G H → f.rep K G vs x → DpAll K H vs (enc x)
  lay : ∀ {x}, good x → PyData.canLayAll0 (enc x) = true
  dep : ∀ x, PyData.depthAll (enc x) ≤ n
  eqv : ∀ x y, PyData.eqvAll (enc x) (enc y) = true ↔ x = y
section
variable {α β γ : Type}
instance datInt : Dat rInt PyData.int 0 (fun _ => True) := ⟨fun _ h => by rw [show _ = V.int _ from h]; exact .int _, fun _ => rfl, fun _ => Nat.le_refl _, fun x y => by
  show (x == y) = true ↔ _
  simp⟩
instance datBool : Dat rBool PyData.bool 0 (fun _ => True) := ⟨fun _ h => by rw [show _ = V.bl _ from h]; exact .bl _, fun _ => rfl, fun _ => Nat.le_refl _, fun x y => by
  show (x == y) = true ↔ _
  simp⟩
instance datStr : Dat rStr PyData.str 0 (fun x => PyData.strOk x = true) := ⟨fun _ h => by rw [show _ = V.str _ from h]; exact .str _, fun h => h, fun _ => Nat.le_refl _, fun x y => by
  show (x == y) = true ↔ _
  simp⟩
instance datNon : Dat rNon (fun _ => PyData.none) 0 (fun _ => True) := ⟨fun _ h => by rw [show _ = V.non from h]; exact .non, fun _ => rfl, fun _ => Nat.le_refl _, fun x y => by
  show true = true ↔ _
  simp⟩
theorem all2_dp {r : Rp α} {enc : α → PyData} {n : Nat} {good : α → Prop} (hr : Dat r enc n good) {K : Fg} {G H : Hp} (e : Ex G H) : ∀ {vs : List V} {xs : List α}, All2 (r.rep K G) vs xs → DpAll K H vs (xs.map enc)
  | [], [], _ => .nil
  | _ :: _, _ :: _, ⟨a, b⟩ => .cons (hr.dp e a) (all2_dp hr e b)
  | [], _ :: _, z => z.elim
  | _ :: _, [], z => z.elim
theorem map_lay {r : Rp α} {enc : α → PyData} {n : Nat} {good : α → Prop} (hr : Dat r enc n good) : ∀ {xs : List α}, (∀ x ∈ xs, good x) → PyData.canLayAll0 (xs.map enc) = true
  | [], _ => rfl
  | x :: xs, h => by
    show (PyData.canLay0 (enc x) && PyData.canLayAll0 (xs.map enc)) = true
    rw [hr.lay (h x List.mem_cons_self), map_lay hr fun y hy => h y (List.mem_cons_of_mem _ hy)]
    rfl
theorem map_dep {r : Rp α} {enc : α → PyData} {n : Nat} {good : α → Prop} (hr : Dat r enc n good) : ∀ (xs : List α), PyData.depthAll (xs.map enc) ≤ n
  | [] => Nat.zero_le _
  | x :: xs => by
    show max (enc x).depth (PyData.depthAll (xs.map enc)) ≤ n
    exact Nat.max_le.mpr ⟨hr.dep x, map_dep hr xs⟩
theorem map_eqv {r : Rp α} {enc : α → PyData} {n : Nat} {good : α → Prop} (hr : Dat r enc n good) : ∀ (xs ys : List α), PyData.eqvAll (xs.map enc) (ys.map enc) = true ↔ xs = ys
  | [], [] => by simp [PyData.eqvAll]
  | [], _ :: _ => by simp [PyData.eqvAll]
  | _ :: _, [] => by simp [PyData.eqvAll]
  | x :: xs, y :: ys => by
    show (PyData.eqv (enc x) (enc y) && PyData.eqvAll (xs.map enc) (ys.map enc)) = true ↔ _
    rw [Bool.and_eq_true, hr.eqv, map_eqv hr xs ys]
    simp
instance datLst {r : Rp α} {enc : α → PyData} {n : Nat} {good : α → Prop} [hr : Dat r enc n good] : Dat (rLst r) (fun xs => PyData.list (xs.map enc)) (n + 1) (fun xs => ∀ x ∈ xs, good x) :=
  ⟨fun e ⟨a, vs, h1, h2, h3⟩ => by rw [h1]; exact .lst (SqL.of (e _ _ h2)) (all2_dp hr e h3), fun h => by show PyData.canLayAll0 _ = true; exact map_lay hr h, fun xs => by show PyData.depthAll _ + 1 ≤ n + 1; exact Nat.succ_le_succ (map_dep hr xs), fun xs ys => by show PyData.eqvAll _ _ = true ↔ _; exact map_eqv hr xs ys⟩
instance datSeq {r : Rp α} {enc : α → PyData} {n : Nat} {good : α → Prop} [hr : Dat r enc n good] : Dat (rSeq r) (fun xs => PyData.list (xs.map enc)) (n + 1) (fun xs => ∀ x ∈ xs, good x) :=
  ⟨fun e ⟨a, vs, h1, h2, h3⟩ => by rw [h1]; exact .lst (ex_l e h2) (all2_dp hr e h3), fun h => by show PyData.canLayAll0 _ = true; exact map_lay hr h, fun xs => by show PyData.depthAll _ + 1 ≤ n + 1; exact Nat.succ_le_succ (map_dep hr xs), fun xs ys => by show PyData.eqvAll _ _ = true ↔ _; exact map_eqv hr xs ys⟩
instance datTpv {r : Rp α} {enc : α → PyData} {n : Nat} {good : α → Prop} [hr : Dat r enc n good] : Dat (rTpv r) (fun xs => PyData.tuple (xs.map enc)) (n + 1) (fun xs => ∀ x ∈ xs, good x) :=
  ⟨fun e ⟨a, vs, h1, h2, h3⟩ => by rw [h1]; exact .tup (ex_t e h2) (all2_dp hr e h3), fun h => by show PyData.canLayAll0 _ = true; exact map_lay hr h, fun xs => by show PyData.depthAll _ + 1 ≤ n + 1; exact Nat.succ_le_succ (map_dep hr xs), fun xs ys => by show PyData.eqvAll _ _ = true ↔ _; exact map_eqv hr xs ys⟩
instance datOne {r : Rp α} {enc : α → PyData} {n : Nat} {good : α → Prop} [hr : Dat r enc n good] : DatF (fOne r) (fun x => [enc x]) n good :=
  ⟨fun e ⟨v, h1, h2⟩ => by rw [h1]; exact .cons (hr.dp e h2) .nil, fun h => by show (PyData.canLay0 _ && true) = true; rw [hr.lay h]; rfl, fun x => by show max _ 0 ≤ n; exact Nat.max_le.mpr ⟨hr.dep x, Nat.zero_le _⟩, fun x y => by
    show (PyData.eqv _ _ && true) = true ↔ _
    rw [Bool.and_true]
    exact hr.eqv x y⟩
instance datCons {r : Rp α} {enc : α → PyData} {n m : Nat} {good : α → Prop} {f : RpF β} {enc' : β → List PyData} {good' : β → Prop} [hr : Dat r enc n good] [hf : DatF f enc' m good'] : DatF (fCons r f) (fun x => enc x.1 :: enc' x.2) (max n m) (fun x => good x.1 ∧ good' x.2) :=
  ⟨fun e ⟨v, ws, h1, h2, h3⟩ => by rw [h1]; exact .cons (hr.dp e h2) (hf.dp e h3), fun h => by show (PyData.canLay0 _ && PyData.canLayAll0 _) = true; rw [hr.lay h.1, hf.lay h.2]; rfl,
   fun x => by show max _ _ ≤ _; exact Nat.max_le.mpr ⟨Nat.le_trans (hr.dep x.1) (Nat.le_max_left _ _), Nat.le_trans (hf.dep x.2) (Nat.le_max_right _ _)⟩, fun x y => by
    show (PyData.eqv _ _ && PyData.eqvAll _ _) = true ↔ _
    rw [Bool.and_eq_true, hr.eqv, hf.eqv]
    exact Prod.ext_iff.symm⟩
instance datTup {f : RpF β} {enc : β → List PyData} {m : Nat} {good : β → Prop} [hf : DatF f enc m good] : Dat (rTup f) (fun x => PyData.tuple (enc x)) (m + 1) good :=
  ⟨fun e ⟨a, vs, h1, h2, h3⟩ => by rw [h1]; exact .tup (ex_t e h2) (hf.dp e h3), fun h => hf.lay h, fun x => by show PyData.depthAll _ + 1 ≤ m + 1; exact Nat.succ_le_succ (hf.dep x), fun x y => by show PyData.eqvAll _ _ = true ↔ _; exact hf.eqv x y⟩
variable {ι : Type} {F : ι → Cx} {K : Fg} {B : Bs} {Γ : Gm} {O : List Own} {ra : Rp α} {rb : Rp β} {e : Expr} {es : List Expr} {pos p : Pos} {n : Str}
variable {P : Program} {w : World} {mg : Str → Option Value} {base : Heap} {k : Nat}
/-- of the value only Pp is kept -/
theorem d_abs (Pp : α → Prop) {Φ : α → List Own → Prop} (kk : ∀ x, Pp x → Φ x O) (h : DW F K B Γ O e ra fun x O' => Pp x ∧ O' = O) : DW F K B Γ O e ra Φ := d_mono h fun x O' ⟨e1, e2⟩ => by
  subst e2
  exact kk x e1
theorem shp {r : Rp α} {enc : α → PyData} {n : Nat} {good : α → Prop} (hr : Dat r enc n good) {x : α} (h : good x) (hn : n ≤ 64) : SeqAt.shaped (enc x) = true := by
  unfold SeqAt.shaped
  rw [hr.lay h, decide_eq_true (Nat.le_trans (hr.dep x) hn)]
  rfl
theorem o_eqD [fam : Fam F P w K mg base k] {enc : α → PyData} {n : Nat} {good : α → Prop} [hr : Dat ra enc n good] [DecidableEq α] {x y : α} {Ψ : Bool → List Own → Prop} (hx : good x) (hy : good y) (kk : Ψ (decide (x = y)) O) (hn : n ≤ 64 := by decide) : OW F K B Γ O (compareOp .Eq) ra ra x y rBool Ψ := fun σ G H v w W rv rw Q q =>
  ⟨rEqD K, fun j => by rw [← fam.ka j]; exact op_eqD (by have := (fam.rm j).units; omega), enc x, enc y, hr.dp W.sub rv, hr.dp W.sub rw, shp hr hx hn, shp hr hy hn, q _ O _ G H kk W (Ex.refl _) (by
    refine congrArg V.bl ?_
    by_cases z : x = y
    · rw [decide_eq_true z, (hr.eqv x y).mpr z]
    · rw [decide_eq_false z]
      exact Bool.eq_false_iff.mpr fun z2 => z ((hr.eqv x y).mp z2))⟩
theorem o_neD [fam : Fam F P w K mg base k] {enc : α → PyData} {n : Nat} {good : α → Prop} [hr : Dat ra enc n good] [DecidableEq α] {x y : α} {Ψ : Bool → List Own → Prop} (hx : good x) (hy : good y) (kk : Ψ (!decide (x = y)) O) (hn : n ≤ 64 := by decide) : OW F K B Γ O (compareOp .NotEq) ra ra x y rBool Ψ := fun σ G H v w W rv rw Q q =>
  ⟨rNeD K, fun j => by rw [← fam.ka j]; exact op_neD (by have := (fam.rm j).units; omega), enc x, enc y, hr.dp W.sub rv, hr.dp W.sub rw, shp hr hx hn, shp hr hy hn, q _ O _ G H kk W (Ex.refl _) (by
    refine congrArg (fun b => V.bl (!b)) ?_
    by_cases z : x = y
    · rw [decide_eq_true z, (hr.eqv x y).mpr z]
    · rw [decide_eq_false z]
      exact Bool.eq_false_iff.mpr fun z2 => z ((hr.eqv x y).mp z2))⟩
/-! ### max and min of a list, len of a tuple -/
theorem c_maxL {xs : List Int} {Φ : Int → List Own → Prop} (h0 : 0 < xs.length) (kk : ∀ m, m ∈ xs → (∀ y ∈ xs, y ≤ m) → Φ m O) (hK : ∀ j, (F j).K = K := by intro _; rfl) (hc : ∀ j, (F j).calm = true := by intro _; rfl) : CW F K B Γ O (.builtin "max") (fOne (rLst rInt)) xs rInt Φ :=
  fun σ G H vs W ⟨v, e, a, ws, h1, h2, h3⟩ Q q => ⟨rMax K, fun j => by rw [← hK j]; exact cr_max (hc j), a, xs, by rw [e, h1], SqL.of (W.sub _ _ (by rw [← All2.map_int h3]; exact h2)), h0, fun m hm1 hm2 => q _ O _ G H (kk m hm1 hm2) W (Ex.refl _) rfl⟩
theorem c_minL {xs : List Int} {Φ : Int → List Own → Prop} (h0 : 0 < xs.length) (kk : ∀ m, m ∈ xs → (∀ y ∈ xs, m ≤ y) → Φ m O) (hK : ∀ j, (F j).K = K := by intro _; rfl) (hc : ∀ j, (F j).calm = true := by intro _; rfl) : CW F K B Γ O (.builtin "min") (fOne (rLst rInt)) xs rInt Φ :=
  fun σ G H vs W ⟨v, e, a, ws, h1, h2, h3⟩ Q q => ⟨rMin K, fun j => by rw [← hK j]; exact cr_min (hc j), a, xs, by rw [e, h1], SqL.of (W.sub _ _ (by rw [← All2.map_int h3]; exact h2)), h0, fun m hm1 hm2 => q _ O _ G H (kk m hm1 hm2) W (Ex.refl _) rfl⟩
theorem c_maxO {p : Addr} {xs : List Int} {f : Own → List Own} [h : OwnAt O p (oLst rInt) xs f] {Φ : Int → List Own → Prop} (h0 : 0 < xs.length) (kk : ∀ m, m ∈ xs → (∀ y ∈ xs, y ≤ m) → Φ m O) (hK : ∀ j, (F j).K = K := by intro _; rfl) (hc : ∀ j, (F j).calm = true := by intro _; rfl) : CW F K B Γ O (.builtin "max") (fOne rAdr) p rInt Φ :=
  fun σ G H vs W ⟨v, e, h1⟩ Q q => by
    obtain ⟨u, h2, ws, h3, h4⟩ := W.ownO h
    subst h3
    exact ⟨rMax K, fun j => by rw [← hK j]; exact cr_max (hc j), p, xs, by rw [e, show v = V.ref p from h1], SqL.of (by rw [← All2.map_int h4]; exact h2), h0, fun m hm1 hm2 => q _ O _ G H (kk m hm1 hm2) W (Ex.refl _) rfl⟩
theorem c_minO {p : Addr} {xs : List Int} {f : Own → List Own} [h : OwnAt O p (oLst rInt) xs f] {Φ : Int → List Own → Prop} (h0 : 0 < xs.length) (kk : ∀ m, m ∈ xs → (∀ y ∈ xs, m ≤ y) → Φ m O) (hK : ∀ j, (F j).K = K := by intro _; rfl) (hc : ∀ j, (F j).calm = true := by intro _; rfl) : CW F K B Γ O (.builtin "min") (fOne rAdr) p rInt Φ :=
  fun σ G H vs W ⟨v, e, h1⟩ Q q => by
    obtain ⟨u, h2, ws, h3, h4⟩ := W.ownO h
    subst h3
    exact ⟨rMin K, fun j => by rw [← hK j]; exact cr_min (hc j), p, xs, by rw [e, show v = V.ref p from h1], SqL.of (by rw [← All2.map_int h4]; exact h2), h0, fun m hm1 hm2 => q _ O _ G H (kk m hm1 hm2) W (Ex.refl _) rfl⟩
theorem c_lenU {f : RpF α} {m : Nat} [hl : Len f m] {x : α} {Φ : Int → List Own → Prop} (kk : Φ (m : Int) O) (hK : ∀ j, (F j).K = K := by intro _; rfl) : CW F K B Γ O (.builtin "len") (fOne (rTup f)) x rInt Φ :=
  fun σ G H vs W ⟨v, e, a, ws, h1, h2, h3⟩ Q q => ⟨fun xs H Q => ∃ p ys, xs = [.ref p] ∧ (SqL K H p ys ∨ SqT K H p ys) ∧ Q (.int ys.length) H, fun j => by rw [← hK j]; exact call_len_seq, a, ws, by rw [e, h1], .inr (ex_t W.sub h2), q _ O _ G H kk W (Ex.refl _) (by rw [hl.len h3]; rfl)⟩
end
theorem dr_ok {c : Int} (h : 0 < c ∧ c ≤ 1000000) : 0 < c ∧ Sm c := ⟨h.1, by
  have := Bd.of (k := 20) (x := c) (by omega) (by omega)
  exact smOk⟩
theorem atI_last {α : Type} {l : List α} {x : α} (h : l.getLast? = some x) : atI l (-1) = some x := by
  cases l with
  | nil => simp at h
  | cons a r =>
    rw [List.getLast?_eq_getElem?] at h
    unfold atI ixN
    rw [if_neg (by omega), if_pos (by rw [List.length_cons]; omega)]
    show (a :: r)[((((a :: r).length : Nat) : Int) + -1).toNat]? = some x
    rw [show ((((a :: r).length : Nat) : Int) + -1).toNat = (a :: r).length - 1 by rw [List.length_cons]; omega]
    exact h
end Sk


set_option Elab.async false
set_option linter.all false
set_option maxRecDepth 100000
set_option maxHeartbeats 4100000
/-! Sk10: lists of any kind (pure, own): slices, stars, concatenation, methods; retyped slots; any, all. -/
namespace Sk
open PySem L2 Evl
/-! ### what reads as a list -/
class LsR {α : Type} (O : List Own) (ra : Rp α) (x : α) {β : outParam Type} (r : outParam (Rp β)) (xs : outParam (List β)) : Prop where
  get : ∀ {K : Fg} {B : Bs} {Γ : Gm} {σ : St} {G H : Hp} {v : V}, Ws K B Γ O σ G H → ra.rep K G v x → ∃ p vs, v = .ref p ∧ SqL K H p vs ∧ All2 (r.rep K G) vs xs
/-- and is no kept list of the module -/
class LsH {α : Type} (O : List Own) (ra : Rp α) (x : α) {β : outParam Type} (r : outParam (Rp β)) (xs : outParam (List β)) : Prop where
  get : ∀ {K : Fg} {B : Bs} {Γ : Gm} {σ : St} {G H : Hp} {v : V}, Ws K B Γ O σ G H → ra.rep K G v x → ∃ p vs, v = .ref p ∧ H p = some (.lst vs) ∧ All2 (r.rep K G) vs xs
section
variable {α β γ : Type}
instance lsrL {O : List Own} {r : Rp β} {xs : List β} : LsR O (rLst r) xs r xs := ⟨fun W ⟨a, vs, h1, h2, h3⟩ => ⟨a, vs, h1, SqL.of (W.sub _ _ h2), h3⟩⟩
instance lsrS {O : List Own} {r : Rp β} {xs : List β} : LsR O (rSeq r) xs r xs := ⟨fun W ⟨a, vs, h1, h2, h3⟩ => ⟨a, vs, h1, ex_l W.sub h2, h3⟩⟩
instance lsrO {O : List Own} {q : Addr} {r : Rp β} {xs : List β} {f : Own → List Own} [h : OwnAt O q (oLst r) xs f] : LsR O rAdr q r xs := ⟨fun W e => by
  obtain ⟨u, h2, ws, h3, h4⟩ := W.ownO h
  subst h3
  exact ⟨q, ws, e, SqL.of h2, h4⟩⟩
instance lshL {O : List Own} {r : Rp β} {xs : List β} : LsH O (rLst r) xs r xs := ⟨fun W ⟨a, vs, h1, h2, h3⟩ => ⟨a, vs, h1, W.sub _ _ h2, h3⟩⟩
instance lshO {O : List Own} {q : Addr} {r : Rp β} {xs : List β} {f : Own → List Own} [h : OwnAt O q (oLst r) xs f] : LsH O rAdr q r xs := ⟨fun W e => by
  obtain ⟨u, h2, ws, h3, h4⟩ := W.ownO h
  subst h3
  exact ⟨q, ws, e, h2, h4⟩⟩
variable {ι : Type} {F : ι → Cx} {K : Fg} {B : Bs} {Γ : Gm} {O : List Own} {ra : Rp α} {rb : Rp β} {rc : Rp γ} {e a b o : Expr} {es : List Expr} {lo hi : Option Expr} {pos p p2 apos : Pos} {n : Str}
variable {P : Program} {w : World} {mg : Str → Option Value} {base : Heap} {k : Nat}
theorem c_lenG {xs : List β} {x : α} [hl : LsR O ra x rb xs] {Φ : Int → List Own → Prop} (kk : Φ (xs.length : Int) O) (hK : ∀ j, (F j).K = K := by intro _; rfl) : CW F K B Γ O (.builtin "len") (fOne ra) x rInt Φ :=
  fun σ G H vs W ⟨v, e, rv⟩ Q q' => by
    obtain ⟨c, ws, h1, h2, h3⟩ := hl.get W rv
    exact ⟨fun xs H Q => ∃ p ys, xs = [.ref p] ∧ (SqL K H p ys ∨ SqT K H p ys) ∧ Q (.int ys.length) H, fun j => by rw [← hK j]; exact call_len_seq, c, ws, by rw [e, h1], .inl h2, q' _ O _ G H kk W (Ex.refl _) (by rw [h3.length]; rfl)⟩
theorem i_ls {xs : List β} {x : α} {y : β} {i : Int} [hl : LsR O ra x rb xs] {Φ : β → List Own → Prop} (h : atI xs i = some y) (kk : Φ y O) (hK : ∀ j, (F j).K = K := by intro _; rfl) : IW F K B Γ O ra rInt x i rb Φ := by
  intro σ G H v w W rv rw Q q'
  obtain ⟨c, ws, h1, h2, h3⟩ := hl.get W rv
  unfold atI at h
  obtain ⟨j, h5, h6⟩ := Option.bind_eq_some_iff.mp h
  obtain ⟨u, h7, h8⟩ := h3.get' h6
  refine ⟨rIxL K, fun j => by rw [← hK j]; exact ix_list, c, ws, i, u, h1, rw, h2, ?_, q' y O u G H kk W (Ex.refl _) h8⟩
  unfold atI
  rw [h3.length, h5]
  exact h7
theorem c_sumG {xs : List Int} {x : α} [hl : LsR O ra x rInt xs] {Φ : Int → List Own → Prop} (kk : Φ xs.sum O) (hK : ∀ j, (F j).K = K := by intro _; rfl) (hc : ∀ j, (F j).calm = true := by intro _; rfl) : CW F K B Γ O (.builtin "sum") (fOne ra) x rInt Φ :=
  fun σ G H vs W ⟨v, e, rv⟩ Q q' => by
    obtain ⟨c, ws, h1, h2, h3⟩ := hl.get W rv
    exact ⟨rSum K, fun j => by rw [← hK j]; exact cr_sum (hc j), c, xs, by rw [e, h1], by rw [← All2.map_int h3]; exact h2, q' _ O _ G H kk W (Ex.refl _) rfl⟩
theorem c_maxG {xs : List Int} {x : α} [hl : LsR O ra x rInt xs] {Φ : Int → List Own → Prop} (h0 : 0 < xs.length) (kk : ∀ m, m ∈ xs → (∀ y ∈ xs, y ≤ m) → Φ m O) (hK : ∀ j, (F j).K = K := by intro _; rfl) (hc : ∀ j, (F j).calm = true := by intro _; rfl) : CW F K B Γ O (.builtin "max") (fOne ra) x rInt Φ :=
  fun σ G H vs W ⟨v, e, rv⟩ Q q' => by
    obtain ⟨c, ws, h1, h2, h3⟩ := hl.get W rv
    exact ⟨rMax K, fun j => by rw [← hK j]; exact cr_max (hc j), c, xs, by rw [e, h1], by rw [← All2.map_int h3]; exact h2, h0, fun m hm1 hm2 => q' _ O _ G H (kk m hm1 hm2) W (Ex.refl _) rfl⟩
theorem c_minG {xs : List Int} {x : α} [hl : LsR O ra x rInt xs] {Φ : Int → List Own → Prop} (h0 : 0 < xs.length) (kk : ∀ m, m ∈ xs → (∀ y ∈ xs, m ≤ y) → Φ m O) (hK : ∀ j, (F j).K = K := by intro _; rfl) (hc : ∀ j, (F j).calm = true := by intro _; rfl) : CW F K B Γ O (.builtin "min") (fOne ra) x rInt Φ :=
  fun σ G H vs W ⟨v, e, rv⟩ Q q' => by
    obtain ⟨c, ws, h1, h2, h3⟩ := hl.get W rv
    exact ⟨rMin K, fun j => by rw [← hK j]; exact cr_min (hc j), c, xs, by rw [e, h1], by rw [← All2.map_int h3]; exact h2, h0, fun m hm1 hm2 => q' _ O _ G H (kk m hm1 hm2) W (Ex.refl _) rfl⟩
theorem All2.map_bl : ∀ {vs : List V} {xs : List Bool}, All2 (fun v x => v = .bl x) vs xs → vs = xs.map V.bl
  | [], [], _ => rfl
  | _ :: _, _ :: _, ⟨a, b⟩ => by
    rw [a, All2.map_bl b]
    rfl
  | [], _ :: _, z => z.elim
  | _ :: _, [], z => z.elim
theorem c_anyG {xs : List Bool} {x : α} [hl : LsR O ra x rBool xs] {Φ : Bool → List Own → Prop} (kk : Φ (xs.any id) O) (hK : ∀ j, (F j).K = K := by intro _; rfl) (hc : ∀ j, (F j).calm = true := by intro _; rfl) : CW F K B Γ O (.builtin "any") (fOne ra) x rBool Φ :=
  fun σ G H vs W ⟨v, e, rv⟩ Q q' => by
    obtain ⟨c, ws, h1, h2, h3⟩ := hl.get W rv
    exact ⟨L2.rAny K, fun j => by rw [← hK j]; exact cr_any (hc j), c, xs, by rw [e, h1], by rw [← All2.map_bl h3]; exact h2, q' _ O _ G H kk W (Ex.refl _) rfl⟩
theorem c_allG {xs : List Bool} {x : α} [hl : LsR O ra x rBool xs] {Φ : Bool → List Own → Prop} (kk : Φ (xs.all id) O) (hK : ∀ j, (F j).K = K := by intro _; rfl) (hc : ∀ j, (F j).calm = true := by intro _; rfl) : CW F K B Γ O (.builtin "all") (fOne ra) x rBool Φ :=
  fun σ G H vs W ⟨v, e, rv⟩ Q q' => by
    obtain ⟨c, ws, h1, h2, h3⟩ := hl.get W rv
    exact ⟨L2.rAll K, fun j => by rw [← hK j]; exact cr_all (hc j), c, xs, by rw [e, h1], by rw [← All2.map_bl h3]; exact h2, q' _ O _ G H kk W (Ex.refl _) rfl⟩
/-! ### slices -/
def WO (F : ι → Cx) (e : Option Expr) : TO := fun σ H Q => ∃ t, (∀ i, PO (F i) e t) ∧ t σ H Q
theorem WO.po {e : Option Expr} (i : ι) : PO (F i) e (WO F e) := ⟨fun pins s σ H Q I ⟨_, p, q⟩ => (p i).run pins s σ H Q I q⟩
def wSl (F : ι → Cx) : V → Option Int → Option Int → Hp → VK → Prop := fun x l h H Q => ∃ r, (∀ i, SlR (F i) r) ∧ r x l h H Q
theorem wSl.sl (i : ι) : SlR (F i) (wSl F) := fun pins s σ H x v vl vu lo hi sl Q I rx hs pl pu ⟨_, p, q⟩ => p i pins s σ H x v vl vu lo hi sl Q I rx hs pl pu q
def DO (F : ι → Cx) (K : Fg) (B : Bs) (Γ : Gm) (O : List Own) (e : Option Expr) (Φ : Option Int → List Own → Prop) : Prop :=
  ∀ σ G H, Ws K B Γ O σ G H → ∀ Q : Option Int → Hp → Prop, (∀ x O' G' H', Φ x O' → Ws K B Γ O' σ G' H' → Ex G G' → Q x H') → WO F e σ H Q
theorem do_no {Φ : Option Int → List Own → Prop} (kk : Φ none O) : DO F K B Γ O none Φ := fun σ G H W Q q => ⟨_, fun _ => po_none, q none O G H kk W (Ex.refl _)⟩
theorem do_at {Φ : Option Int → List Own → Prop} (h : DW F K B Γ O e rInt fun i O1 => Φ (some i) O1) : DO F K B Γ O (some e) Φ := by
  intro σ G H W Q q
  refine ⟨_, fun i => po_some (WE.pe i), ?_⟩
  exact h σ G H W _ fun x O1 v G1 H1 kk W1 e1 r1 => ⟨x, r1, q _ O1 G1 H1 kk W1 e1⟩
def SLW (F : ι → Cx) (K : Fg) (B : Bs) (Γ : Gm) (O : List Own) (ra : Rp α) (x : α) (l h : Option Int) (rc : Rp γ) (Φ : γ → List Own → Prop) : Prop :=
  ∀ σ G H v, Ws K B Γ O σ G H → ra.rep K G v x → ∀ Q : VK, (∀ z O' u G' H', Φ z O' → Ws K B Γ O' σ G' H' → Ex G G' → rc.rep K G' u z → Q u H') → wSl F v l h H Q
theorem d_slice {Φ : γ → List Own → Prop} (h : DW F K B Γ O e ra fun x O1 => DO F K B Γ O1 lo fun l O2 => DO F K B Γ O2 hi fun u O3 => SLW F K B Γ O3 ra x l u rc Φ) : DW F K B Γ O (.Subscript e (.Slice lo hi none p2) pos) rc Φ := by
  intro σ G H W Q q
  refine ⟨_, fun i => pe_slice (wSl.sl i) (WE.pe i) (WO.po i) (WO.po i), ?_⟩
  refine h σ G H W _ fun x O1 v G1 H1 h1 W1 e1 r1 => ?_
  refine h1 σ G1 H1 W1 _ fun l O2 G2 H2 h2 W2 e2 => ?_
  refine h2 σ G2 H2 W2 _ fun u O3 G3 H3 h3 W3 e3 => ?_
  exact h3 σ G3 H3 v W3 (ra.mono (e2.trans e3) r1) Q fun z O' u G' H' kk W' e' r' => q z O' u G' H' kk W' (((e1.trans e2).trans e3).trans e') r'
def cutL {α : Type} (xs : List α) (lo hi : Option Int) : List α := (xs.drop (HT.sIx xs.length 0 lo)).take (HT.sIx xs.length xs.length hi - HT.sIx xs.length 0 lo)
theorem cut_all2 {p : V → α → Prop} {vs : List V} {xs : List α} (h : All2 p vs xs) (lo hi : Option Int) : All2 p (cutV vs lo hi) (cutL xs lo hi) := by
  unfold cutV cutL
  rw [h.length]
  exact (h.drop _).take _
theorem sl_l {xs : List β} {x : α} {l h : Option Int} [hl : LsR O ra x rb xs] {Φ : List β → List Own → Prop} (kk : Φ (cutL xs l h) O) (hK : ∀ j, (F j).K = K := by intro _; rfl) : SLW F K B Γ O ra x l h (rLst rb) Φ := by
  intro σ G H v W rv Q q
  obtain ⟨c, ws, h1, h2, h3⟩ := hl.get W rv
  refine ⟨rSlL K, fun j => by rw [← hK j]; exact sl_list, c, ws, h1, h2, fun p hp => ?_⟩
  have s : Stp B.T [] G H (upd G p (.lst (cutV ws l h))) (upd H p (.lst (cutV ws l h))) := Stp.new W.sub hp
  exact q _ O _ _ _ kk (W.step s) s.g ⟨p, _, rfl, upd_same, (cut_all2 h3 l h).mono fun _ _ z => rb.mono s.g z⟩
theorem sl_e {xs ys : List β} {x : α} {l h : Option Int} [hl : LsR O ra x rb xs] {Φ : List β → List Own → Prop} (e : cutL xs l h = ys) (kk : Φ ys O) (hK : ∀ j, (F j).K = K := by intro _; rfl) : SLW F K B Γ O ra x l h (rLst rb) Φ := by
  subst e
  exact sl_l kk hK
theorem sl_o {xs : List β} {x : α} {l h : Option Int} [hl : LsR O ra x rb xs] {Φ : Addr → List Own → Prop} (kk : ∀ p, p ∉ B.M → Φ p (⟨p, oLst rb, cutL xs l h⟩ :: O)) (hK : ∀ j, (F j).K = K := by intro _; rfl) : SLW F K B Γ O ra x l h rAdr Φ := by
  intro σ G H v W rv Q q
  obtain ⟨c, ws, h1, h2, h3⟩ := hl.get W rv
  refine ⟨rSlL K, fun j => by rw [← hK j]; exact sl_list, c, ws, h1, h2, fun p hp => ?_⟩
  exact q p _ _ G _ (kk p (W.notM hp)) (W.newOwn hp (r := oLst rb) (x := cutL xs l h) ⟨_, rfl, cut_all2 h3 l h⟩) (Ex.refl _) rfl
/-- a tuple's slice, not the whole -/
theorem sl_t {xs : List β} {l h : Option Int} {Φ : List β → List Own → Prop} (hw : ¬ (HT.sIx xs.length 0 l = 0 ∧ HT.sIx xs.length xs.length h = xs.length)) (kk : Φ (cutL xs l h) O) (hK : ∀ j, (F j).K = K := by intro _; rfl) : SLW F K B Γ O (rTpv rb) xs l h (rTpv rb) Φ := by
  intro σ G H v W ⟨c, ws, h1, h2, h3⟩ Q q
  refine ⟨rSlT K, fun j => by rw [← hK j]; exact sl_tup, c, ws, h1, ex_t W.sub h2, by rw [h3.length]; exact hw, fun p hp => ?_⟩
  have s : Stp B.T [] G H (upd G p (.tup (cutV ws l h))) (upd H p (.tup (cutV ws l h))) := Stp.new W.sub hp
  exact q _ O _ _ _ kk (W.step s) s.g ⟨p, _, rfl, SqT.of upd_same, (cut_all2 h3 l h).mono fun _ _ z => rb.mono s.g z⟩
/-! ### stars, concatenation, list(xs) -/
theorem da_star [fam : Fam F P w K mg base k] {Φ : List β → List Own → Prop} (h : DW F K B Γ O e ra fun x O1 => ∃ xs, LsR O1 ra x rb xs ∧ DA F K B Γ O1 es (fAll rb) fun ys O2 => Φ (xs ++ ys) O2)
    (hs : ∀ i, starEach (.Starred e p :: es) (F i).env = (true, eval e (F i).env) :: starEach es (F i).env := by intro _; rfl) : DA F K B Γ O (.Starred e p :: es) (fAll rb) Φ := by
  intro σ G H W Q q
  refine ⟨StX.tStar K (WE F e) (WA F es), fun i => by rw [← fam.ka i]; exact StX.pa_star (WE.pe i) (WA.pa i) (hs i), ?_⟩
  refine h σ G H W _ fun x O1 v G1 H1 ⟨xs, hl, kk⟩ W1 e1 r1 => ?_
  obtain ⟨c, ws, h1, h2, h3⟩ := hl.get W1 r1
  refine ⟨c, ws, h1, .inr h2, ?_⟩
  exact kk σ G1 H1 W1 _ fun ys O2 vs G2 H2 k2 W2 e2 r2 => q _ O2 _ G2 H2 k2 W2 (e1.trans e2) ((h3.mono fun _ _ z => rb.mono e2 z).append r2)
theorem o_cat {xs ys : List γ} {x : α} {y : β} [h1 : LsH O ra x rc xs] [h2 : LsH O rb y rc ys] {Φ : List γ → List Own → Prop} (hz : xs.length + ys.length ≤ sizeLine) (kk : Φ (xs ++ ys) O) : OW F K B Γ O (binaryOp .Add) ra rb x y (rLst rc) Φ := by
  intro σ G H v u W rv ru Q q
  obtain ⟨c, vs, a1, a2, a3⟩ := h1.get W rv
  obtain ⟨d, us, b1, b2, b3⟩ := h2.get W ru
  refine ⟨_, fun _ => op_cat, c, d, vs, us, a1, b1, a2, b2, by rw [a3.length, b3.length]; exact hz, fun p hp => ?_⟩
  have s : Stp B.T [] G H (upd G p (.lst (vs ++ us))) (upd H p (.lst (vs ++ us))) := Stp.new W.sub hp
  exact q _ O _ _ _ kk (W.step s) s.g ⟨p, _, rfl, upd_same, (a3.append b3).mono fun _ _ z => rc.mono s.g z⟩
theorem o_catO {xs ys : List γ} {x : α} {y : β} [h1 : LsH O ra x rc xs] [h2 : LsH O rb y rc ys] {Φ : Addr → List Own → Prop} (hz : xs.length + ys.length ≤ sizeLine) (kk : ∀ p, p ∉ B.M → Φ p (⟨p, oLst rc, xs ++ ys⟩ :: O)) : OW F K B Γ O (binaryOp .Add) ra rb x y rAdr Φ := by
  intro σ G H v u W rv ru Q q
  obtain ⟨c, vs, a1, a2, a3⟩ := h1.get W rv
  obtain ⟨d, us, b1, b2, b3⟩ := h2.get W ru
  refine ⟨_, fun _ => op_cat, c, d, vs, us, a1, b1, a2, b2, by rw [a3.length, b3.length]; exact hz, fun p hp => ?_⟩
  exact q p _ _ G _ (kk p (W.notM hp)) (W.newOwn hp (r := oLst rc) (x := xs ++ ys) ⟨_, rfl, a3.append b3⟩) (Ex.refl _) rfl
theorem c_list {xs : List β} {x : α} [hl : LsR O ra x rb xs] {Φ : List β → List Own → Prop} (kk : Φ xs O) (hK : ∀ j, (F j).K = K := by intro _; rfl) : CW F K B Γ O (.type "list") (fOne ra) x (rLst rb) Φ :=
  fun σ G H vs W ⟨v, e, rv⟩ Q q => by
    obtain ⟨c, ws, h1, h2, h3⟩ := hl.get W rv
    refine ⟨fun xs H Q => ∃ p ys, xs = [.ref p] ∧ (SqL K H p ys ∨ SqT K H p ys) ∧ ∀ l, H l = none → Q (.ref l) (upd H l (.lst ys)), fun j => by rw [← hK j]; exact call_list_of, c, ws, by rw [e, h1], .inl h2, fun p hp => ?_⟩
    have s : Stp B.T [] G H (upd G p (.lst ws)) (upd H p (.lst ws)) := Stp.new W.sub hp
    exact q _ O _ _ _ kk (W.step s) s.g ⟨p, _, rfl, upd_same, h3.mono fun _ _ z => rb.mono s.g z⟩
theorem c_listO {xs : List β} {x : α} [hl : LsR O ra x rb xs] {Φ : Addr → List Own → Prop} (kk : ∀ p, p ∉ B.M → Φ p (⟨p, oLst rb, xs⟩ :: O)) (hK : ∀ j, (F j).K = K := by intro _; rfl) : CW F K B Γ O (.type "list") (fOne ra) x rAdr Φ :=
  fun σ G H vs W ⟨v, e, rv⟩ Q q => by
    obtain ⟨c, ws, h1, h2, h3⟩ := hl.get W rv
    refine ⟨fun xs H Q => ∃ p ys, xs = [.ref p] ∧ (SqL K H p ys ∨ SqT K H p ys) ∧ ∀ l, H l = none → Q (.ref l) (upd H l (.lst ys)), fun j => by rw [← hK j]; exact call_list_of, c, ws, by rw [e, h1], .inl h2, fun p hp => ?_⟩
    exact q p _ _ G _ (kk p (W.notM hp)) (W.newOwn hp (r := oLst rb) (x := xs) ⟨_, rfl, h3⟩) (Ex.refl _) rfl
/-- tuple(xs) of a list -/
theorem c_tuple {xs : List β} {x : α} [hl : LsR O ra x rb xs] {Φ : List β → List Own → Prop} (kk : Φ xs O) (hK : ∀ j, (F j).K = K := by intro _; rfl) : CW F K B Γ O (.type "tuple") (fOne ra) x (rTpv rb) Φ :=
  fun σ G H vs W ⟨v, e, rv⟩ Q q => by
    obtain ⟨c, ws, h1, h2, h3⟩ := hl.get W rv
    refine ⟨fun xs H Q => ∃ p ys, xs = [.ref p] ∧ ((SqL K H p ys ∧ ∀ l, H l = none → Q (.ref l) (upd H l (.tup ys))) ∨ (SqT K H p ys ∧ Q (.ref p) H)), fun j => by rw [← hK j]; exact call_tuple_of, c, ws, by rw [e, h1], .inl ⟨h2, fun p hp => ?_⟩⟩
    have s : Stp B.T [] G H (upd G p (.tup ws)) (upd H p (.tup ws)) := Stp.new W.sub hp
    exact q _ O _ _ _ kk (W.step s) s.g ⟨p, _, rfl, SqT.of upd_same, h3.mono fun _ _ z => rb.mono s.g z⟩
/-! ### methods of an own list -/
theorem d_ext [fam : Fam F P w K mg base k] {Φ : Unit → List Own → Prop} (h : DW F K B Γ O o rAdr fun q O1 => ∃ xs1 f1, OwnAt O1 q (oLst rc) xs1 f1 ∧ DW F K B Γ O1 e rb fun y O2 => ∃ xs f zs, OwnAt O2 q (oLst rc) xs f ∧ LsH O2 rb y rc zs ∧ xs.length + zs.length ≤ sizeLine ∧ Φ () (f ⟨q, oLst rc, xs ++ zs⟩))
    (hbase : ∀ j, attributeBase o "extend" (F j).env (eval o (F j).env) = eval o (F j).env := by intro _; rfl)
    (hfew : ∀ j, ((backTo pos (starEach [e] (F j).env)).all (fun x => !x.1) && (backToKw pos (keywordEach [] (F j).env)).all (fun x => x.1.isSome)
      && decide ([e].length + ([] : List Keyword).length + (if ([] : List Keyword).isEmpty then 0 else 1) < 30)) = true := by intro _; rfl)
    (hline : (apos.endLine == pos.line) = true := by rfl) (hs : ∀ j, starEach [e] (F j).env = (false, eval e (F j).env) :: starEach [] (F j).env := by intro _; rfl) :
    DW F K B Γ O (.Call (.Attribute o "extend" apos) [e] [] pos) rNon Φ := by
  refine d_bm (ra := rAdr) (f := fOne rb) PySem.F.plainAttrs_list PySem.F.slot_list_extend PySem.F.type_list_extend (fun j => mt_extend) ?_ hbase hfew hline hs (fun _ => rfl)
  refine d_mono h fun q O1 ⟨xs1, f1, hO1, h1⟩ => ⟨tyO hO1, da_one (d_mono h1 fun y O2 ⟨xs, f, zs, hO, hZ, hl, kk⟩ => ?_) hs⟩
  intro σ G H v vs W rv ⟨u, e1, ru⟩ Q q'
  obtain ⟨ob, h2, ws, h3, h4⟩ := W.ownO hO
  subst h3
  obtain ⟨c, us, b1, b2, b3⟩ := hZ.get W ru
  refine ⟨q, c, ws, us, rv, by rw [e1, b1], h2, b2, by rw [h4.length, b3.length]; exact hl, q' () _ .non G _ kk ?_ (Ex.refl _) rfl⟩
  exact W.mutO (h := hO) (r' := oLst rc) (x' := xs ++ zs) ⟨ws ++ us, rfl, h4.append b3⟩
/-- xs.insert(i, y) -/
theorem d_ins [fam : Fam F P w K mg base k] {Φ : Unit → List Own → Prop} (h : DW F K B Γ O o rAdr fun q O1 => ∃ xs1 f1, OwnAt O1 q (oLst rc) xs1 f1 ∧ DW F K B Γ O1 a rInt fun i O2 => DW F K B Γ O2 b rc fun y O3 => ∃ xs f, OwnAt O3 q (oLst rc) xs f ∧ xs.length < sizeLine ∧ (0 ≤ i ∧ i < 2 ^ 63) ∧ Φ () (f ⟨q, oLst rc, xs.take i.toNat ++ [y] ++ xs.drop i.toNat⟩))
    (hbase : ∀ j, attributeBase o "insert" (F j).env (eval o (F j).env) = eval o (F j).env := by intro _; rfl)
    (hfew : ∀ j, ((backTo pos (starEach [a, b] (F j).env)).all (fun x => !x.1) && (backToKw pos (keywordEach [] (F j).env)).all (fun x => x.1.isSome)
      && decide ([a, b].length + ([] : List Keyword).length + (if ([] : List Keyword).isEmpty then 0 else 1) < 30)) = true := by intro _; rfl)
    (hline : (apos.endLine == pos.line) = true := by rfl) (hs : ∀ j, starEach [a, b] (F j).env = (false, eval a (F j).env) :: starEach [b] (F j).env := by intro _; rfl) (hs2 : ∀ j, starEach [b] (F j).env = (false, eval b (F j).env) :: starEach [] (F j).env := by intro _; rfl)
    (hpl : ∀ j, (backTo pos (starEach [b] (F j).env)).any (·.1) = false := by intro _; rfl) :
    DW F K B Γ O (.Call (.Attribute o "insert" apos) [a, b] [] pos) rNon Φ := by
  refine d_bm (ra := rAdr) (f := fCons rInt (fOne rc)) PySem.F.plainAttrs_list PySem.F.slot_list_insert PySem.F.type_list_insert (fun j => mt_insert) ?_ hbase hfew hline hs hpl
  refine d_mono h fun q O1 ⟨xs1, f1, hO1, h1⟩ => ⟨tyO hO1, da_cons (d_mono h1 fun i O2 h2 => da_one (d_mono h2 fun y O3 ⟨xs, f, hO, hl, hi, kk⟩ => ?_) hs2) hs⟩
  intro σ G H v vs W rv ⟨u, ws2, e1, ru, u2, e2, ru2⟩ Q q'
  obtain ⟨ob, h2, ws, h3, h4⟩ := W.ownO hO
  subst h3
  refine ⟨q, ws, i, u2, rv, by rw [e1, e2, show u = V.int i from ru], h2, by rw [h4.length]; exact hl, hi.1, hi.2, q' () _ .non G _ kk ?_ (Ex.refl _) rfl⟩
  exact W.mutO (h := hO) (r' := oLst rc) (x' := xs.take i.toNat ++ [y] ++ xs.drop i.toNat) ⟨_, rfl, ((h4.take i.toNat).append (show All2 (rc.rep K G) [u2] [y] from ⟨ru2, trivial⟩)).append (h4.drop i.toNat)⟩
theorem All2.eraseIdx {p : V → α → Prop} : ∀ {vs : List V} {xs : List α} (i : Nat), All2 p vs xs → All2 p (vs.eraseIdx i) (xs.eraseIdx i)
  | [], [], _, _ => by simp [All2]
  | _ :: _, _ :: _, 0, ⟨_, b⟩ => b
  | _ :: _, _ :: _, i + 1, ⟨a, b⟩ => ⟨a, All2.eraseIdx i b⟩
  | [], _ :: _, _, z => z.elim
  | _ :: _, [], _, z => z.elim
/-- xs.pop(i), i not below 0 -/
theorem d_popI [fam : Fam F P w K mg base k] {Φ : γ → List Own → Prop} (h : DW F K B Γ O o rAdr fun q O1 => ∃ xs1 f1, OwnAt O1 q (oLst rc) xs1 f1 ∧ DW F K B Γ O1 e rInt fun i O2 => ∃ xs f y, OwnAt O2 q (oLst rc) xs f ∧ (0 ≤ i ∧ i < 2 ^ 63) ∧ xs[i.toNat]? = some y ∧ Φ y (f ⟨q, oLst rc, xs.eraseIdx i.toNat⟩))
    (hbase : ∀ j, attributeBase o "pop" (F j).env (eval o (F j).env) = eval o (F j).env := by intro _; rfl)
    (hfew : ∀ j, ((backTo pos (starEach [e] (F j).env)).all (fun x => !x.1) && (backToKw pos (keywordEach [] (F j).env)).all (fun x => x.1.isSome)
      && decide ([e].length + ([] : List Keyword).length + (if ([] : List Keyword).isEmpty then 0 else 1) < 30)) = true := by intro _; rfl)
    (hline : (apos.endLine == pos.line) = true := by rfl) (hs : ∀ j, starEach [e] (F j).env = (false, eval e (F j).env) :: starEach [] (F j).env := by intro _; rfl) :
    DW F K B Γ O (.Call (.Attribute o "pop" apos) [e] [] pos) rc Φ := by
  refine d_bm (ra := rAdr) (f := fOne rInt) PySem.F.plainAttrs_list PySem.F.slot_list_pop PySem.F.type_list_pop (fun j => mt_popAt) ?_ hbase hfew hline hs (fun _ => rfl)
  refine d_mono h fun q O1 ⟨xs1, f1, hO1, h1⟩ => ⟨tyO hO1, da_one (d_mono h1 fun i O2 ⟨xs, f, y, hO, hi, hy, kk⟩ => ?_) hs⟩
  intro σ G H v vs W rv ⟨u, e1, ru⟩ Q q'
  obtain ⟨ob, h2, ws, h3, h4⟩ := W.ownO hO
  subst h3
  obtain ⟨yv, h5, h6⟩ := h4.get' hy
  have hlt : i.toNat < ws.length := (List.getElem?_eq_some_iff.mp h5).1
  refine ⟨q, ws, i, i.toNat, yv, rv, by rw [e1, show u = V.int i from ru], h2, by omega, hi.2, seqIndex_of hi.1 (by omega), h5, q' y _ yv G _ kk ?_ (Ex.refl _) h6⟩
  exact W.mutO (h := hO) (r' := oLst rc) (x' := xs.eraseIdx i.toNat) ⟨_, rfl, h4.eraseIdx _⟩
/-! ### x == y: an own list of plain things and a list -/
theorem o_eqG [fam : Fam F P w K mg base k] {enc : γ → PyData} {n : Nat} {good : γ → Prop} [hr : Dat rc enc n good] [DecidableEq γ] {x : α} {y : β} {xs ys : List γ} [h1 : LsR O ra x rc xs] [h2 : LsR O rb y rc ys] {Ψ : Bool → List Own → Prop} (hx : ∀ z ∈ xs, good z) (hy : ∀ z ∈ ys, good z) (kk : Ψ (decide (xs = ys)) O) (hn : n + 1 ≤ 64 := by decide) : OW F K B Γ O (compareOp .Eq) ra rb x y rBool Ψ := fun σ G H v w W rv rw Q q => by
  obtain ⟨c, vs, a1, a2, a3⟩ := h1.get W rv
  obtain ⟨d, us, b1, b2, b3⟩ := h2.get W rw
  have hL : Dat (rLst rc) (fun xs => PyData.list (xs.map enc)) (n + 1) (fun xs => ∀ x ∈ xs, good x) := inferInstance
  refine ⟨rEqD K, fun j => by rw [← fam.ka j]; exact op_eqD (by have := (fam.rm j).units; omega), .list (xs.map enc), .list (ys.map enc), by rw [a1]; exact .lst a2 (all2_dp hr W.sub a3), by rw [b1]; exact .lst b2 (all2_dp hr W.sub b3), shp hL hx hn, shp hL hy hn, q _ O _ G H kk W (Ex.refl _) ?_⟩
  refine congrArg V.bl ?_
  by_cases z : xs = ys
  · rw [decide_eq_true z]
    exact (hL.eqv xs ys).mpr z
  · rw [decide_eq_false z]
    exact Bool.eq_false_iff.mpr fun z2 => z ((hL.eqv xs ys).mp z2)
theorem o_neG [fam : Fam F P w K mg base k] {enc : γ → PyData} {n : Nat} {good : γ → Prop} [hr : Dat rc enc n good] [DecidableEq γ] {x : α} {y : β} {xs ys : List γ} [h1 : LsR O ra x rc xs] [h2 : LsR O rb y rc ys] {Ψ : Bool → List Own → Prop} (hx : ∀ z ∈ xs, good z) (hy : ∀ z ∈ ys, good z) (kk : Ψ (!decide (xs = ys)) O) (hn : n + 1 ≤ 64 := by decide) : OW F K B Γ O (compareOp .NotEq) ra rb x y rBool Ψ := fun σ G H v w W rv rw Q q => by
  obtain ⟨c, vs, a1, a2, a3⟩ := h1.get W rv
  obtain ⟨d, us, b1, b2, b3⟩ := h2.get W rw
  have hL : Dat (rLst rc) (fun xs => PyData.list (xs.map enc)) (n + 1) (fun xs => ∀ x ∈ xs, good x) := inferInstance
  refine ⟨rNeD K, fun j => by rw [← fam.ka j]; exact op_neD (by have := (fam.rm j).units; omega), .list (xs.map enc), .list (ys.map enc), by rw [a1]; exact .lst a2 (all2_dp hr W.sub a3), by rw [b1]; exact .lst b2 (all2_dp hr W.sub b3), shp hL hx hn, shp hL hy hn, q _ O _ G H kk W (Ex.refl _) ?_⟩
  refine congrArg (fun b => V.bl (!b)) ?_
  by_cases z : xs = ys
  · rw [decide_eq_true z]
    exact (hL.eqv xs ys).mpr z
  · rw [decide_eq_false z]
    exact Bool.eq_false_iff.mpr fun z2 => z ((hL.eqv xs ys).mp z2)
/-! ### a thing or None -/
class NotNon (r : Rp α) : Prop where
  ne : ∀ {K : Fg} {G : Hp} {v : V} {x : α}, r.rep K G v x → v ≠ .non
instance : NotNon rInt := ⟨fun h z => by rw [show _ = V.int _ from h] at z; cases z⟩
instance : NotNon rBool := ⟨fun h z => by rw [show _ = V.bl _ from h] at z; cases z⟩
instance : NotNon rStr := ⟨fun h z => by rw [show _ = V.str _ from h] at z; cases z⟩
instance {r : Rp α} : NotNon (rLst r) := ⟨fun ⟨a, _, h, _⟩ z => by rw [h] at z; cases z⟩
instance {r : Rp α} : NotNon (rSeq r) := ⟨fun ⟨a, _, h, _⟩ z => by rw [h] at z; cases z⟩
instance {r : Rp α} : NotNon (rTpv r) := ⟨fun ⟨a, _, h, _⟩ z => by rw [h] at z; cases z⟩
instance {f : RpF α} : NotNon (rTup f) := ⟨fun ⟨a, _, h, _⟩ z => by rw [h] at z; cases z⟩
instance {ns : List Str} {f : RpF α} : NotNon (rRec ns f) := ⟨fun ⟨a, _, h, _⟩ z => by rw [h] at z; cases z⟩
theorem opt_some {r : Rp α} [hn : NotNon r] {K : Fg} {G : Hp} {v : V} {x : α} (h : r.rep K G v x) : (rOpt r).rep K G v (some x) := ⟨hn.ne h, h⟩
theorem d_some [hn : NotNon ra] {Φ : Option α → List Own → Prop} (h : DW F K B Γ O e ra fun x O' => Φ (some x) O') : DW F K B Γ O e (rOpt ra) Φ := fun σ G H W Q q =>
  h σ G H W Q fun x O' v G' H' kk W' e' hv => q (some x) O' v G' H' kk W' e' (opt_some hv)
end
section
variable {X : Cx} {K : Fg} {B : Bs} {Γ Γ' : Gm} {O O' : List Own} {α β γ : Type} {ra : Rp α} {rb : Rp β} {rc : Rp γ} {D : Ends} {rest : List Stmt} {e o i : Expr} {pos tpos : Pos}
variable {P : Program} {w : World} {mg : Str → Option Value} {base : Heap} {k : Nat}
/-- a slot seen as another kind of thing -/
theorem s_re (j : Nat) {x : α} {y : β} {f : Option Slot → Gm} [hA : At Γ j ra x] [hg : SetG Γ j f] (hc : ∀ {K : Fg} {G : Hp} {v : V}, ra.rep K G v x → rb.rep K G v y) (h : DS X K B (f (some ⟨rb, y⟩)) O rest D) : DS X K B Γ O rest D := fun σ G H W => by
  obtain ⟨u, h3, h4⟩ := W.env.get hA.get
  have W3 := W.set (s := ⟨rb, y⟩) j (u := u) (hc h4)
  have e2 : σ.set j (some u) = σ := by
    refine List.ext_getElem? fun l => ?_
    by_cases hj : j = l
    · subst hj
      rw [List.getElem?_set_self (List.getElem?_eq_some_iff.mp h3).1, h3]
    · rw [List.getElem?_set_ne hj]
  rw [e2, ← hg.eq] at W3
  exact h σ G H W3
/-- a slot that is not None -/
theorem s_some (j : Nat) {x : α} {f : Option Slot → Gm} [hA : At Γ j (rOpt ra) (some x)] [hg : SetG Γ j f] (h : DS X K B (f (some ⟨ra, x⟩)) O rest D) : DS X K B Γ O rest D := s_re (ra := rOpt ra) (x := some x) (rb := ra) j (fun h => h.2) h
/-- own list [i] = e -/
theorem s_setI [fam : Fam (Us X) P w K mg base k] (h : DW (Us X) K B Γ O e rc fun y O1 => DW (Us X) K B Γ O1 o rAdr fun q O2 => DW (Us X) K B Γ O2 i rInt fun n O3 => ∃ xs f, OwnAt O3 q (oLst rc) xs f ∧ (0 ≤ n ∧ n < (xs.length : Int)) ∧ DS X K B Γ (f ⟨q, oLst rc, xs.set n.toNat y⟩) rest D)
    (hs : swapsWithSole [.Subscript o i tpos] e pos.line X.env = pure false := by rfl) (hw : swappedStores [.Subscript o i tpos] e X.env = pure none := by rfl)
    (h1 : (assignEach [.Subscript o i tpos] X.env).map (·.2) = [assign (.Subscript o i tpos) X.env] := by rfl)
    (ha : ∀ v, assign (.Subscript o i tpos) X.env v = (do
      let ov ← holding [v] (eval o X.env)
      let iv ← holding [v, ov] (eval i X.env)
      standAt tpos
      holding [v, ov, iv] (setItem ov iv v)
      release [v, ov, iv] []) := by intro _; rfl) : DS X K B Γ O (.Assign [.Subscript o i tpos] e pos :: rest) D := by
  intro σ G H W
  refine WSs.cons (ps_asg (te := WE (Us X) e) (WE.pe (F := Us X) ()) (pg_sub (WE.pe (F := Us X) ()) (WE.pe (F := Us X) ()) set_list ha) hs hw h1) ?_
  refine h σ G H W _ fun y O1 v G1 H1 k1 W1 e1 r1 => ?_
  refine k1 σ G1 H1 W1 _ fun q O2 u G2 H2 k2 W2 e2 r2 => ?_
  refine k2 σ G2 H2 W2 _ fun n O3 z G3 H3 ⟨xs, f, hO, hn, kk⟩ W3 e3 r3 => ?_
  obtain ⟨ob, h2, ws, h3, h4⟩ := W3.ownO hO
  subst h3
  refine ⟨q, ws, n, n.toNat, r2, r3, h2, atI_ok hn.1 (by rw [h4.length]; exact hn.2), ?_⟩
  exact kk σ G3 _ (W3.mutO (h := hO) (r' := oLst rc) (x' := xs.set n.toNat y) ⟨_, rfl, h4.set (rc.mono (e2.trans e3) r1) n.toNat⟩)
end
/-! ### a parameter that is an own object, with what it holds -/
def rGh {β : Type} : Rp (Addr × β) := ⟨fun _ _ v x => v = .ref x.1, fun _ h => h⟩
section
variable {ι : Type} {F : ι → Cx} {X : Cx} {K : Fg} {B : Bs} {Γ : Gm} {O : List Own} {β : Type} {D : Ends} {rest : List Stmt} {e : Expr}
theorem d_gh (y : β) {Φ : Addr × β → List Own → Prop} (h : DW F K B Γ O e rAdr fun q O1 => Φ (q, y) O1) : DW F K B Γ O e rGh Φ := fun σ G H W Q q => h σ G H W Q fun x O' v G' H' kk W' e' hv => q (x, y) O' v G' H' kk W' e' hv
theorem s_gh (j : Nat) {x : Addr × β} {f : Option Slot → Gm} [hA : At Γ j (rGh (β := β)) x] [hg : SetG Γ j f] (h : DS X K B (f (some ⟨rAdr, x.1⟩)) O rest D) : DS X K B Γ O rest D := s_re (ra := rGh (β := β)) (x := x) (rb := rAdr) (y := x.1) j (fun h => h) h
end
/-! ### promises that keep one own object and hand out others -/
section
variable {K : Fg} {B : Bs} {Γ : Gm} {O : List Own} {α β γ : Type} {ra : RpF α} {rb : Rp β} {pre : α → Prop} {T : List Addr}
theorem sw_g {x : α} {q : Addr} {δ : Type} {r : Ow δ} {d : δ} {f : Own → List Own} {own : α → Own} {post : α → β → List Own → Prop} {Φ : β → List Own → Prop} [ho : OwnAt O q r d f] (hp : pre x) (h : ∀ y O', post x y O' → ∃ L, O' = L ++ [own x] ∧ Φ y (L ++ O)) (e : own x = ⟨q, r, d⟩ := by rfl)
    (hT : ∀ P ∈ T, P ∈ B.T := by first | exact fun _ h => h | (intro _ h; cases h)) : SW K B Γ O (spM K T ra pre (fun x => [own x]) rb post) [] ra x rb Φ := by
  obtain ⟨j, h1, _⟩ := ho.at_
  have hl : j < O.length := (List.getElem?_eq_some_iff.mp h1).1
  have hg : O[j] = own x := by
    rw [e]
    exact (List.getElem?_eq_some_iff.mp h1).2
  intro σ G H vs W rv Q q'
  have split : O = O.take j ++ own x :: O.drop (j + 1) := by
    rw [← hg]
    exact (List.take_append_drop j O).symm.trans (by rw [List.drop_eq_getElem_cons hl])
  have perm : ([own x] ++ (O.take j ++ O.drop (j + 1))).Perm O := by
    have p1 : (O.take j ++ own x :: O.drop (j + 1)).Perm (own x :: (O.take j ++ O.drop (j + 1))) := List.perm_middle
    exact p1.symm.trans (by rw [← split])
  refine sw_m (Φ := fun y O' => ∃ L, O' = L ++ [own x] ++ (O.take j ++ O.drop (j + 1)) ∧ Φ y (L ++ O)) (O.take j ++ O.drop (j + 1)) hp (fun v hv => perm.mem_iff.mp hv) (fun z => ((perm.map (·.a)).nodup_iff).mpr z) (fun y O' p => ?_) hT σ G H vs W rv Q fun z O' u G' H' ⟨L, k1, k2⟩ W' e' r' => q' z (L ++ O) u G' H' k2 ?_ e' r'
  · obtain ⟨L, e1, e2⟩ := h y O' p
    exact ⟨L, by rw [e1], e2⟩
  · subst k1
    have perm2 : (L ++ [own x] ++ (O.take j ++ O.drop (j + 1))).Perm (L ++ O) := by
      rw [List.append_assoc]
      exact perm.append_left L
    exact W'.perm (fun v hv => perm2.mem_iff.mpr hv) fun z => ((perm2.map (·.a)).nodup_iff).mp z
/-- one own object kept, a new one handed out -/
abbrev sp1N {δ : Type} (K : Fg) (T : List Addr) (ra : RpF α) (pre : α → Prop) (own : α → Own) (r' : Ow δ) (post : α → δ → Prop) : Sp := spM K T ra pre (fun x => [own x]) rAdr fun x q O' => ∃ d, post x d ∧ O' = [⟨q, r', d⟩, own x]
theorem sw_1N {x : α} {q : Addr} {δ ε : Type} {r : Ow δ} {d : δ} {f : Own → List Own} {own : α → Own} {r' : Ow ε} {post : α → ε → Prop} {Φ : Addr → List Own → Prop} [ho : OwnAt O q r d f] (hp : pre x) (h : ∀ p d', post x d' → Φ p (⟨p, r', d'⟩ :: O)) (e : own x = ⟨q, r, d⟩ := by rfl)
    (hT : ∀ P ∈ T, P ∈ B.T := by first | exact fun _ h => h | (intro _ h; cases h)) : SW K B Γ O (sp1N K T ra pre own r' post) [] ra x rAdr Φ :=
  sw_g (ho := ho) hp (fun y O' ⟨d', p, e2⟩ => ⟨[⟨y, r', d'⟩], by rw [e2]; rfl, h y d' p⟩) e hT
end
theorem s_sub {X : Cx} {K : Fg} {B : Bs} {Γ : Gm} {O O' : List Own} {D : Ends} {rest : List Stmt} (hs : List.Sublist O' O) (h : DS X K B Γ O' rest D) : DS X K B Γ O rest D := s_own h (fun w hw => hs.subset hw) fun z => z.sublist (hs.map _)
theorem s_perm {X : Cx} {K : Fg} {B : Bs} {Γ : Gm} {O O' : List Own} {D : Ends} {rest : List Stmt} (hs : O'.Perm O) (h : DS X K B Γ O' rest D) : DS X K B Γ O rest D := s_own h (fun w hw => hs.mem_iff.mp hw) fun z => ((hs.map (·.a)).nodup_iff).mpr z
section
variable {X : Cx} {K : Fg} {B : Bs} {Γ : Gm} {O : List Own} {D : Ends} {rest r2 : List Stmt} {pos : Pos} {g : Hp} {N : St → Hp → Prop}
/-- break, continue in a branch -/
theorem s_brkI {δ : Type} {Pv : δ → Prop} {Γf : δ → Gm} {Of : δ → List Own} (h : DS X K B Γ O rest D) : DS X K (B.push g) Γ O (.Break pos :: r2) { LpE X K (B.push g) Pv Γf Of rest D with nx := N } :=
  s_brk fun σ G H W => h σ G H W.unbase
theorem s_contI {δ : Type} {Pv : δ → Prop} {Γf : δ → Gm} {Of : δ → List Own} (d : δ) (h : Pv d) (hw : Wk Γ (Γf d)) (ho : O = Of d) : DS X K B Γ O (.Continue pos :: r2) { LpE X K B Pv Γf Of rest D with nx := N } :=
  s_cont fun σ G H W => ⟨d, G, h, by rw [← ho]; exact W.wk hw⟩
end
end Sk


set_option Elab.async false
set_option linter.all false
set_option maxRecDepth 100000
set_option maxHeartbeats 4100000
namespace Law
open PySem L2 Evl Sk
def top (i : Nat) : Stmt := PySem.Challenge.pw_skyapart_k33_whole_stream_of_radars.main.body.getD i (.Pass ⟨0, 0, 0, 0⟩)
abbrev s_in_bytes : Stmt := top 6
abbrev s_from_bytes_of : Stmt := top 7
abbrev s_frame_of : Stmt := top 8
abbrev s_plot_at : Stmt := top 9
abbrev s_read_stream : Stmt := top 10
abbrev s_start : Stmt := top 12
abbrev s_draw : Stmt := top 13
abbrev s_pick : Stmt := top 14
abbrev s_is_number : Stmt := top 15
abbrev s_is : Stmt := top 16
abbrev s_ranged : Stmt := top 17
abbrev s_frame : Stmt := top 18
abbrev s_read : Stmt := top 19
abbrev s_noise : Stmt := top 20
abbrev s_law : Stmt := top 21
structure Nm (K : PySem.W.Frag) (mg : Str → Option Value) where
  in_bytes : Df K mg "in_bytes" s_in_bytes ["number", "many"]
  from_bytes_of : Df K mg "from_bytes_of" s_from_bytes_of ["numbers"]
  frame_of : Df K mg "frame_of" s_frame_of ["plot", "count"]
  plot_at : Df K mg "plot_at" s_plot_at ["numbers", "at"]
  read_stream : Df K mg "read_stream" s_read_stream ["numbers"]
  start : Df K mg "_law_start" s_start ["_law_script"]
  draw : Df K mg "_law_draw" s_draw ["_law_state", "_law_bound"]
  pick : Df K mg "_law_pick" s_pick ["_law_state", "_law_things"]
  is_number : Df K mg "_law_is_number" s_is_number ["_law_thing"]
  is : Df K mg "_law_is" s_is ["_law_actual", "_law_due"]
  ranged : Df K mg "_law_ranged" s_ranged ["_law_state", "_law_low", "_law_high"]
  frame : Df K mg "_law_frame" s_frame ["_law_plot", "_law_count"]
  read : Df K mg "_law_read" s_read ["_law_numbers"]
  noise : Df K mg "_law_noise" s_noise ["_law_state"]
  law : Df K mg "law" s_law ["_law_script"]
/-- what is built in, the module's constants -/
structure Bt (mg : Str → Option Value) : Prop where
  range : mg "range" = none
  list : mg "list" = none
  len : mg "len" = none
  int : mg "int" = none
  isi : mg "isinstance" = none
  bool : mg "bool" = none
  reversed : mg "reversed" = none
  sum : mg "sum" = none
  abs : mg "abs" = none
  MARK : ∃ t, mg "MARK" = some (.int 170 t)
  SIZE : ∃ t, mg "SIZE" = some (.int 11 t)
  MODULUS : ∃ t, mg "MODULUS" = some (.int 251 t)
  MIDDLE : ∃ t, mg "MIDDLE" = some (.int 8388608 t)
  MIDDLE_HEIGHT : ∃ t, mg "MIDDLE_HEIGHT" = some (.int 32768 t)
/-- the state of the draws -/
def stN : List Str := ["cells", "at", "left", "mix"]
theorem stN_nd : stN.Nodup := by decide +kernel
abbrev stF : RpF (List Int × Int × Int × Int) := fCons (rLst rInt) (fCons rInt (fCons rInt (fOne rInt)))
structure StGood (d : List Int × Int × Int × Int) : Prop where
  cs : ∀ z ∈ d.1, 0 ≤ z
  at_ : 0 ≤ d.2.1
  lf : 0 ≤ d.2.2.1
  m0 : 0 ≤ d.2.2.2
  m1 : d.2.2.2 < 2147483647
abbrev oSt : Ow Unit := oEx (oRec stN stF) StGood
theorem bd31 {x : Int} (h0 : 0 ≤ x) (h1 : x < 2147483647) : Bd 31 x := Bd.of (by omega) (by omega)
local macro_rules | `(tactic| walk_at "sc") => `(tactic| first | omega | assumption | (with_reducible exact mulOk) | (with_reducible exact smOk) | (with_reducible exact ⟨by decide, smOk⟩) | decide | (simp only [List.length_cons, List.length_nil]; decide) | exact divOk (by omega))
section
variable {P : Program} {w : World} {K : PySem.W.Frag} {mg : Str → Option Value} {base : Heap}
abbrev sp_start (K : Fg) : Sp := spN K [] (fOne (rSeq rInt)) (fun ns => ns.length ≤ 63) oSt fun _ _ => True
theorem sc_start : FnScope ["_law_script", "_law_cell"] ["_law_script"] (defScope s_start) := ⟨rfl, rfl, rfl, by decide +kernel, rfl, by decide +kernel, by decide +kernel⟩
theorem ok_start (N : Nm K mg) (T : Bt mg) : FnOk P w K mg base CX0 1 N.start.f N.start.fd ["_law_script"] (sp_start K) := by
  refine fn_m N.start.F sc_start [] fun cdv A outer s G H E x Q fam hp hk => ?_
  show DS _ K ⟨[], [], G, H, []⟩ [some ⟨(rSeq rInt), x⟩, none] [] (defBody s_start) _
  refine s_ret (d_disp (ns := stN) (f := stF) stN_nd (fun i => pps_cons pe_str (WE.pe i) (pps_cons pe_str (WE.pe i) (pps_cons pe_str (WE.pe i) (pps_cons pe_str (WE.pe i) pps_nil)))) fun q hq => ?_)
  refine dd_cons (d_lcP [("_law_cell", 1)] [1] (fun _ => blkOk_by (N := ["_law_script", "_law_cell"]) (sc := defScope s_start) (by decide +kernel)) (w_seq (d_var 0 ⟨rfl, Nat.le_trans hp (by decide), fun gg D ys x hx => (g_name 1 (d_callB T.abs bt_abs (da_one (d_callT T.int bt_int (da_one (d_var 1 (c_int (c_abs ⟨rfl, rfl⟩)))))))), ?_⟩)))
  refine dd_cons (d_int (dd_cons (d_int (dd_one (d_bin (d_int (d_callB T.len bt_len (da_one (d_var 0 (c_lenS (o_add ⟨_, rfl, ?_⟩)))))))))))
  refine rt_close (r := oRec stN stF) (good := StGood) ⟨?_, Int.le_refl 0, Int.le_refl 0, ?_, ?_⟩ (hk ⟨(), trivial, rfl⟩)
  · intro z hz
    obtain ⟨y, _, e⟩ := List.mem_map.mp hz
    subst e
    split <;> omega
  · dsimp only
    omega
  · have hp' : x.length ≤ 63 := hp
    dsimp only
    omega
abbrev sp_draw (K : Fg) : Sp := sp1 K [] (fCons rAdr (fOne rInt)) (fun x => 0 < x.2 ∧ Sm x.2) (fun x => ⟨x.1, oSt, ()⟩) rInt fun x y => 0 ≤ y ∧ y < x.2
theorem sc_draw : FnScope ["_law_state", "_law_bound", "_law_cell", "_law_number"] ["_law_state", "_law_bound"] (defScope s_draw) := ⟨rfl, rfl, rfl, by decide +kernel, rfl, by decide +kernel, by decide +kernel⟩
theorem ok_draw (N : Nm K mg) (T : Bt mg) : FnOk P w K mg base CX0 1 N.draw.f N.draw.fd ["_law_state", "_law_bound"] (sp_draw K) := by
  refine fn_m N.draw.F sc_draw [] fun cdv A outer s G H E x Q fam hp hk => ?_
  obtain ⟨st, b⟩ := x
  obtain ⟨hb0, hbS⟩ := hp
  dsimp only at hb0 hbS
  have hbB := hbS.bd
  refine s_open (r := oRec stN stF) (good := StGood) fun d hd => ?_
  obtain ⟨cs, at', lf, mx⟩ := d
  obtain ⟨g1, g2, g3, g4, g5⟩ := hd
  dsimp only at g1 g2 g3 g4 g5
  have bm := bd31 g4 g5
  show DS _ K ⟨[], [st], G, H, []⟩ [some ⟨rAdr, st⟩, some ⟨rInt, b⟩, none, none] [⟨st, oRec stN stF, (cs, at', lf, mx)⟩] (defBody s_draw) _
  refine s_ifJ (fun d : List Int × Int × Int × Int => StGood d) (fun _ => [some ⟨rAdr, st⟩, some ⟨rInt, b⟩, none, none]) (fun d => [⟨st, oRec stN stF, d⟩]) (dt_bool (dp_andP (dt_cmp (d_recV 0 2 rfl stN_nd (d_int (o_eqI ⟨rfl, rfl⟩)))) (fun hb => (dp_and1 (dt_cmp (d_recV 0 1 rfl stN_nd (d_callB T.len bt_len (da_one (d_recV 0 0 rfl stN_nd (c_lenL (o_lt ⟨rfl, rfl⟩)))))))))))
    (fun hb => ?_) (fun hb => ?_) (fun d hd => ?_)
  · -- then
    simp only [Bool.and_eq_true, decide_eq_true_eq] at hb
    obtain ⟨c, hc1, hc2, _⟩ := atI_lt g2 hb.2
    have hc0 := g1 c hc2
    refine s_set 2 (d_ix (d_recV 0 0 rfl stN_nd (d_recV 0 1 rfl stN_nd (i_lst hc1 ?_))))
    refine s_recPutV 0 1 rfl stN_nd (d_bin (d_recV 0 1 rfl stN_nd (d_int (o_add ⟨rfl, ?_⟩))))
    refine s_recPutV 0 3 rfl stN_nd (d_bin (d_callT T.int bt_int (da_one (d_bin (d_bin (d_bin (d_recV 0 3 rfl stN_nd (d_int (o_mul (by walk_at "sc") (d_var 2 (o_add (d_int (o_add (c_int (d_int (o_mod (by walk_at "sc") ⟨rfl, ?_⟩))))))))))))))))
    obtain ⟨q0, q1⟩ := mod_rng (mx * 48271 + c + 11) (show (0 : Int) < 2147483647 by decide)
    refine s_ifP (dt_cmp (d_var 2 (d_bin (d_int (d_int (o_pow (by decide) (o_lt ⟨rfl, rfl⟩))))))) (fun hb => ?_) (fun hb => ?_)
    · refine s_ret (d_bin (d_callT T.int bt_int (da_one (d_var 2 (c_int (d_var 1 (o_mod (by walk_at "sc") ?_)))))))
      exact rt_close (r := oRec stN stF) (good := StGood) ⟨g1, by dsimp only; omega, g3, q0, q1⟩ (hk ⟨rfl, mod_rng _ hb0⟩)
    · refine s_out (s_recPutV 0 2 rfl stN_nd (d_var 2 ⟨rfl, ?_⟩))
      exact s_join (cs, at' + 1, c, (mx * 48271 + c + 11) % 2147483647) ⟨g1, by dsimp only; omega, hc0, q0, q1⟩ ⟨rfl, rfl, trivial⟩ rfl
  · exact s_join (cs, at', lf, mx) ⟨g1, g2, g3, g4, g5⟩ ⟨rfl, rfl, trivial⟩ rfl
  · obtain ⟨cs, at', lf, mx⟩ := d
    obtain ⟨g1, g2, g3, g4, g5⟩ := hd
    dsimp only at g1 g2 g3 g4 g5
    have bm := bd31 g4 g5
    refine s_ifP (dt_cmp (d_recV 0 2 rfl stN_nd (d_int (o_gt ⟨rfl, rfl⟩)))) (fun hb => ?_) (fun hb => ?_)
    · refine s_set 3 (d_bin (d_callT T.int bt_int (da_one (d_recV 0 2 rfl stN_nd (c_int (d_var 1 (o_mod (by walk_at "sc") ?_)))))))
      refine s_recPutV 0 2 rfl stN_nd (d_bin (d_recV 0 2 rfl stN_nd (d_var 1 (o_div (divOk hb0) ⟨rfl, ?_⟩))))
      refine s_ret (d_var 3 ?_)
      exact rt_close (r := oRec stN stF) (good := StGood) ⟨g1, g2, Int.ediv_nonneg g3 (by omega), g4, g5⟩ (hk ⟨rfl, mod_rng _ hb0⟩)
    · refine s_out (s_recPutV 0 3 rfl stN_nd (d_bin (d_callT T.int bt_int (da_one (d_bin (d_bin (d_recV 0 3 rfl stN_nd (d_int (o_mul (by walk_at "sc") (d_int (o_add (c_int (d_int (o_mod (by walk_at "sc") ⟨rfl, ?_⟩))))))))))))))
      obtain ⟨q0, q1⟩ := mod_rng (mx * 48271 + 11) (show (0 : Int) < 2147483647 by decide)
      have bm3 := bd31 q0 q1
      refine s_ret (d_bin (d_callT T.int bt_int (da_one (d_bin (d_callT T.int bt_int (da_one (d_bin (d_bin (d_recV 0 3 rfl stN_nd (d_int (o_mul (by walk_at "sc") (d_int (o_add (c_int (d_int (o_mod (by walk_at "sc") (c_int (d_var 1 (o_mod (by walk_at "sc") ?_)))))))))))))))))))
      exact rt_close (r := oRec stN stF) (good := StGood) ⟨g1, g2, g3, q0, q1⟩ (hk ⟨rfl, mod_rng _ hb0⟩)
abbrev sp_pick {α : Type} (ra : Rp α) (K : Fg) : Sp := sp1 K [] (fCons rAdr (fOne (rLst ra))) (fun x => 0 < x.2.length ∧ x.2.length ≤ sizeLine) (fun x => ⟨x.1, oSt, ()⟩) ra fun x y => y ∈ x.2
theorem sc_pick : FnScope ["_law_state", "_law_things"] ["_law_state", "_law_things"] (defScope s_pick) := ⟨rfl, rfl, rfl, by decide +kernel, rfl, by decide +kernel, by decide +kernel⟩
theorem ok_pick {α : Type} {ra : Rp α} (N : Nm K mg) (T : Bt mg) : FnOk P w K mg base CX0 2 N.pick.f N.pick.fd ["_law_state", "_law_things"] (sp_pick ra K) := by
  refine fn_m N.pick.F sc_pick [] fun cdv A outer s G H E x Q fam hp hk => ?_
  obtain ⟨st, xs⟩ := x
  obtain ⟨h0, h1⟩ := hp
  dsimp only at h0 h1
  have hB := bd_len h1
  show DS _ K ⟨[], [st], G, H, []⟩ [some ⟨rAdr, st⟩, some ⟨(rLst ra), xs⟩] [⟨st, oSt, ()⟩] (defBody s_pick) _
  refine s_ret (d_ix (rc := ra) (d_var 1 (d_call N.draw (ok_draw N T) (da_cons (d_var 0 (da_one (d_callB T.len bt_len (da_one (d_var 1 (c_lenL (sw_1 (q := st) ⟨?_, smOk⟩ (fun n hn => ?_))))))))))))
  · dsimp only
    omega
  · obtain ⟨c, c1, c2, _⟩ := atI_lt (xs := xs) hn.1 hn.2
    exact i_lst c1 (hk ⟨rfl, c2⟩)
abbrev sp_is_number (K : Fg) : Sp := spF K [] (fOne rInt) (fun _ => True) rBool fun _ => true
theorem sc_is_number : FnScope ["_law_thing"] ["_law_thing"] (defScope s_is_number) := ⟨rfl, rfl, rfl, by decide +kernel, rfl, by decide +kernel, by decide +kernel⟩
theorem ok_is_number (N : Nm K mg) (T : Bt mg) : FnOk P w K mg base CX0 1 N.is_number.f N.is_number.fd ["_law_thing"] (sp_is_number K) := by
  refine fn_m N.is_number.F sc_is_number [] fun cdv A outer s G H E x Q fam hp hk => ?_
  show DS _ K ⟨[], _, G, H, []⟩ [some ⟨rInt, x⟩] _ (defBody s_is_number) _
  refine s_ret (d_then (d_andP (d_callB T.isi bt_isi (da_cons (d_var 0 (da_one (d_cls T.int bt_int (c_isi (b := true) (kit_ty isi_int_int) ⟨rfl, rfl⟩)))))) (fun hb => (d_one (d_then (d_notP (d_callB T.isi bt_isi (da_cons (d_var 0 (da_one (d_cls T.bool bt_bool (c_isi (b := false) (kit_ty isi_int_bool) ⟨rfl, rfl⟩))))))) ⟨rfl, rfl⟩)))) ?_)
  exact hk ⟨rfl, rfl⟩
abbrev sp_is (K : Fg) : Sp := spF K [] (fCons rBool (fOne rBool)) (fun _ => True) rBool fun x => decide (x.1 = x.2)
theorem sc_is : FnScope ["_law_actual", "_law_due"] ["_law_actual", "_law_due"] (defScope s_is) := ⟨rfl, rfl, rfl, by decide +kernel, rfl, by decide +kernel, by decide +kernel⟩
theorem ok_is (N : Nm K mg) (T : Bt mg) : FnOk P w K mg base CX0 1 N.is.f N.is.fd ["_law_actual", "_law_due"] (sp_is K) := by
  refine fn_m N.is.F sc_is [] fun cdv A outer s G H E x Q fam hp hk => ?_
  show DS _ K ⟨[], _, G, H, []⟩ [some ⟨rBool, x.1⟩, some ⟨rBool, x.2⟩] _ (defBody s_is) _
  refine s_ret (d_then (d_andP (d_callB T.isi bt_isi (da_cons (d_var 0 (da_one (d_cls T.bool bt_bool (c_isi (b := true) (kit_ty isi_bool_bool) ⟨rfl, rfl⟩)))))) (fun hb => (d_one (d_cmp (d_var 0 (d_var 1 (o_eqB ⟨rfl, rfl⟩))))))) ?_)
  exact hk ⟨rfl, rfl⟩
end
end Law


set_option Elab.async false
set_option linter.all false
/-! M33: the plain law of streams: frames, what is read. -/
namespace M33
abbrev Plot := Int × Int × Int
abbrev Told := Plot × Int
def b3 (n : Int) : List Int := [n / 65536, n / 256 % 256, n % 256]
def body (p : Plot) (c : Int) : List Int := [170] ++ b3 (p.1 + 8388608) ++ b3 (p.2.1 + 8388608) ++ [(p.2.2 + 32768) / 256, (p.2.2 + 32768) % 256, c]
def frm (p : Plot) (c : Int) : List Int := body p c ++ [(body p c).sum % 251]
structure Byte (n : Int) : Prop where
  lo : 0 ≤ n
  hi : n < 256
structure OkP (p : Plot) (c : Int) : Prop where
  x0 : -8388608 ≤ p.1
  x1 : p.1 ≤ 8388607
  y0 : -8388608 ≤ p.2.1
  y1 : p.2.1 ≤ 8388607
  z0 : -32768 ≤ p.2.2
  z1 : p.2.2 ≤ 32767
  c0 : 0 ≤ c
  c1 : c < 256
theorem b3_len (n : Int) : (b3 n).length = 3 := rfl
theorem body_len (p : Plot) (c : Int) : (body p c).length = 10 := rfl
theorem frm_len (p : Plot) (c : Int) : (frm p c).length = 11 := rfl
theorem b3_byte {n : Int} (h0 : 0 ≤ n) (h1 : n < 16777216) : ∀ m ∈ b3 n, Byte m := by
  intro m hm
  unfold b3 at hm
  simp only [List.mem_cons, List.not_mem_nil, or_false] at hm
  rcases hm with e | e | e <;> subst e <;> exact ⟨by omega, by omega⟩
theorem body_byte {p : Plot} {c : Int} (h : OkP p c) : ∀ m ∈ body p c, Byte m := by
  obtain ⟨x0, x1, y0, y1, z0, z1, c0, c1⟩ := h
  intro m hm
  unfold body at hm
  rcases List.mem_append.mp hm with hm | hm
  · rcases List.mem_append.mp hm with hm | hm
    · rcases List.mem_append.mp hm with hm | hm
      · rw [List.mem_singleton] at hm
        subst hm
        exact ⟨by decide, by decide⟩
      · exact b3_byte (by omega) (by omega) m hm
    · exact b3_byte (by omega) (by omega) m hm
  · simp only [List.mem_cons, List.not_mem_nil, or_false] at hm
    rcases hm with e | e | e <;> subst e <;> exact ⟨by omega, by omega⟩
theorem frm_byte {p : Plot} {c : Int} (h : OkP p c) : ∀ m ∈ frm p c, Byte m := by
  intro m hm
  unfold frm at hm
  rcases List.mem_append.mp hm with hm | hm
  · exact body_byte h m hm
  · rw [List.mem_singleton] at hm
    subst hm
    exact ⟨by omega, by omega⟩
/-- a number of bytes -/
def fb (l : List Int) : Int := l.foldl (fun r n => 256 * r + n) 0
theorem fb_take {l : List Int} {i : Nat} {n : Int} (h : l[i]? = some n) : fb (l.take (i + 1)) = 256 * fb (l.take i) + n := by
  unfold fb
  rw [List.take_add_one, h, List.foldl_append]
  rfl
theorem fb_bd {l : List Int} (h : ∀ n ∈ l, Byte n) (i : Nat) : 0 ≤ fb (l.take i) ∧ fb (l.take i) < 256 ^ i := by
  induction i with
  | zero => exact ⟨by simp [fb], by simp [fb]⟩
  | succ i ih =>
    cases e : l[i]? with
    | none =>
      have h1 : l.take (i + 1) = l.take i := by rw [List.take_add_one, e]; simp
      rw [h1]
      refine ⟨ih.1, Int.lt_of_lt_of_le ih.2 ?_⟩
      rw [Int.pow_succ]
      have : (0 : Int) ≤ 256 ^ i := Int.le_of_lt (Int.pow_pos (by decide))
      omega
    | some n =>
      rw [fb_take e]
      obtain ⟨a, b⟩ := h n (List.mem_of_getElem? e)
      rw [Int.pow_succ]
      omega
/-- the frame at the begin -/
def pS (l : List Int) : Option Told :=
  let f := l.take 11
  if f.length < 11 ∨ f.getD 0 0 ≠ 170 ∨ f.getD 10 0 ≠ (f.take 10).sum % 251 then none
  else some ((fb ((f.drop 1).take 3) - 8388608, fb ((f.drop 4).take 3) - 8388608, fb ((f.drop 7).take 2) - 32768), f.getD 9 0)
def rdS (l : List Int) : List Told :=
  if h : 11 ≤ l.length then match pS l with
    | none => rdS (l.drop 1)
    | some t => t :: rdS (l.drop 11)
  else []
termination_by l.length
decreasing_by all_goals (rw [List.length_drop]; omega)
theorem rd_short {l : List Int} (h : l.length < 11) : rdS l = [] := by
  rw [rdS, dif_neg (by omega)]
theorem rd_none {l : List Int} (h : 11 ≤ l.length) (e : pS l = none) : rdS l = rdS (l.drop 1) := by
  rw [rdS, dif_pos h, e]
theorem rd_some {l : List Int} {t : Told} (h : 11 ≤ l.length) (e : pS l = some t) : rdS l = t :: rdS (l.drop 11) := by
  rw [rdS, dif_pos h, e]
theorem pS_mark {l : List Int} {n : Int} {r : List Int} (e : l = n :: r) (h : n ≠ 170) : pS l = none := by
  subst e
  unfold pS
  rw [if_pos]
  exact .inr (.inl h)
theorem noise_end : ∀ {ns : List Int}, (∀ n ∈ ns, n ≠ 170) → rdS ns = []
  | [], _ => rd_short (by decide)
  | n :: ns, h => by
    by_cases hl : 11 ≤ (n :: ns).length
    · rw [rd_none hl (pS_mark rfl (h n List.mem_cons_self))]
      exact noise_end fun m hm => h m (List.mem_cons_of_mem _ hm)
    · exact rd_short (by omega)
theorem noise_skip {t : List Int} (ht : 11 ≤ t.length) : ∀ {ns : List Int}, (∀ n ∈ ns, n ≠ 170) → rdS (ns ++ t) = rdS t
  | [], _ => rfl
  | n :: ns, h => by
    have hl : 11 ≤ ((n :: ns) ++ t).length := by
      rw [List.length_append]
      omega
    rw [rd_none hl (pS_mark rfl (h n List.mem_cons_self))]
    exact noise_skip ht fun m hm => h m (List.mem_cons_of_mem _ hm)
theorem fb3 (a b c : Int) : fb [a, b, c] = a * 65536 + b * 256 + c := by
  show 256 * (256 * (256 * 0 + a) + b) + c = _
  omega
theorem fb2 (a b : Int) : fb [a, b] = a * 256 + b := by
  show 256 * (256 * 0 + a) + b = _
  omega
theorem fb_b3 {n : Int} (h0 : 0 ≤ n) (h1 : n < 16777216) : fb (b3 n) = n := by
  unfold b3
  rw [fb3]
  omega
theorem pS_frm {p : Plot} {c : Int} (h : OkP p c) (t : List Int) : pS (frm p c ++ t) = some (p, c) := by
  obtain ⟨x, y, z⟩ := p
  obtain ⟨x0, x1, y0, y1, z0, z1, c0, c1⟩ := h
  dsimp only at x0 x1 y0 y1 z0 z1
  have e : (frm (x, y, z) c ++ t).take 11 = frm (x, y, z) c := by
    rw [List.take_append_of_le_length (by rw [frm_len]; exact Nat.le_refl _), List.take_of_length_le (by rw [frm_len]; exact Nat.le_refl _)]
  unfold pS
  rw [e, if_neg]
  · have e1 : ((frm (x, y, z) c).drop 1).take 3 = b3 (x + 8388608) := rfl
    have e2 : ((frm (x, y, z) c).drop 4).take 3 = b3 (y + 8388608) := rfl
    have e3 : ((frm (x, y, z) c).drop 7).take 2 = [(z + 32768) / 256, (z + 32768) % 256] := rfl
    have e4 : (frm (x, y, z) c).getD 9 0 = c := rfl
    show some ((fb (((frm (x, y, z) c).drop 1).take 3) - 8388608, fb (((frm (x, y, z) c).drop 4).take 3) - 8388608, fb (((frm (x, y, z) c).drop 7).take 2) - 32768), (frm (x, y, z) c).getD 9 0) = _
    rw [e1, e2, e3, e4, fb_b3 (by omega) (by omega), fb_b3 (by omega) (by omega), fb2]
    rw [show x + 8388608 - 8388608 = x by omega, show y + 8388608 - 8388608 = y by omega, show (z + 32768) / 256 * 256 + (z + 32768) % 256 - 32768 = z by omega]
  · rintro (h | h | h)
    · rw [frm_len] at h
      omega
    · exact h rfl
    · exact h rfl
theorem rd_frm {p : Plot} {c : Int} (h : OkP p c) {ns : List Int} (hn : ∀ n ∈ ns, n ≠ 170) (t : List Int) : rdS (ns ++ (frm p c ++ t)) = (p, c) :: rdS t := by
  have hl : 11 ≤ (frm p c ++ t).length := by
    rw [List.length_append, frm_len]
    omega
  rw [noise_skip hl hn, rd_some hl (pS_frm h t)]
  rw [List.drop_append_of_le_length (by rw [frm_len]; exact Nat.le_refl _), List.drop_of_length_le (by rw [frm_len]; exact Nat.le_refl _)]
  rfl
/-- what has been sent so far -/
structure Sent (s : List Int) (ts : List Told) : Prop where
  by_ : ∃ ns, (∀ n ∈ ns, n ≠ 170) ∧ ∀ t, rdS (s ++ t) = ts ++ rdS (ns ++ t)
theorem Sent.init {ns : List Int} (h : ∀ n ∈ ns, n ≠ 170) : Sent ns [] := ⟨ns, h, fun _ => rfl⟩
theorem Sent.step {s ns : List Int} {ts : List Told} {p : Plot} {c : Int} (h : Sent s ts) (hp : OkP p c) (hn : ∀ n ∈ ns, n ≠ 170) : Sent (s ++ frm p c ++ ns) (ts ++ [(p, c)]) := by
  obtain ⟨ms, h1, h2⟩ := h
  refine ⟨ns, hn, fun t => ?_⟩
  rw [List.append_assoc, List.append_assoc, h2, rd_frm hp h1, List.append_assoc]
  rfl
theorem Sent.read {s : List Int} {ts : List Told} (h : Sent s ts) : rdS s = ts := by
  obtain ⟨ms, h1, h2⟩ := h
  have := h2 []
  rw [List.append_nil, List.append_nil, noise_end h1, List.append_nil] at this
  exact this
theorem inB3 {n : Int} (h0 : 0 ≤ n) (h1 : n < 16777216) : [n / 65536 % 256, n / 256 % 256, n % 256] = b3 n := by
  unfold b3
  rw [show n / 65536 % 256 = n / 65536 by omega]
end M33


set_option Elab.async false
set_option linter.all false
set_option maxRecDepth 100000
set_option maxHeartbeats 4100000
namespace Law
open PySem L2 Evl Sk M33
local macro_rules | `(tactic| walk_at "sc") => `(tactic| first | omega | assumption | (with_reducible exact mulOk) | (with_reducible exact smOk) | (with_reducible exact ⟨by decide, smOk⟩) | decide | (simp only [List.length_cons, List.length_nil]; decide) | exact divOk (by omega))
local macro_rules | `(tactic| walk_at "drw") => `(tactic| first | omega | (dsimp only at *; omega) | (dsimp only at *; split <;> omega))
theorem cut_at {α : Type} (xs : List α) {a b : Int} (h0 : 0 ≤ a) (h1 : a ≤ b) : cutL xs (some a) (some b) = (xs.drop a.toNat).take (b - a).toNat := by
  unfold cutL
  have e1 : HT.sIx xs.length 0 (some a) = min a.toNat xs.length := by
    show (if a < 0 then _ else _) = _
    rw [if_neg (by omega)]
  have e2 : HT.sIx xs.length xs.length (some b) = min b.toNat xs.length := by
    show (if b < 0 then _ else _) = _
    rw [if_neg (by omega)]
  rw [e1, e2]
  rcases Nat.lt_or_ge xs.length a.toNat with z | z
  · have m1 : min a.toNat xs.length = xs.length := by omega
    rw [m1, List.drop_of_length_le (Nat.le_refl _), List.drop_of_length_le (by omega)]
    simp
  · have m1 : min a.toNat xs.length = a.toNat := by omega
    rw [m1]
    rcases Nat.lt_or_ge xs.length b.toNat with y | y
    · have m2 : min b.toNat xs.length = xs.length := by omega
      rw [m2, List.take_of_length_le (by rw [List.length_drop]; omega), List.take_of_length_le (by rw [List.length_drop]; omega)]
    · have m2 : min b.toNat xs.length = b.toNat := by omega
      rw [m2, show (b - a).toNat = b.toNat - a.toNat by omega]
theorem cut_last {α : Type} (xs : List α) (h : 0 < xs.length) : cutL xs none (some (-1)) = xs.take (xs.length - 1) := by
  unfold cutL
  have e2 : HT.sIx xs.length xs.length (some (-1)) = xs.length - 1 := by
    show (if (-1 : Int) < 0 then (-1 + (xs.length : Int)).toNat else min (-1 : Int).toNat xs.length) = _
    rw [if_pos (by decide)]
    omega
  rw [e2]
  rfl
theorem cut_to {α : Type} (xs : List α) {b : Int} (h0 : 0 ≤ b) : cutL xs none (some b) = xs.take b.toNat := by
  have h := cut_at xs (a := 0) (b := b) (by decide) h0
  rw [show cutL xs none (some b) = cutL xs (some 0) (some b) by
    unfold cutL
    rw [show HT.sIx xs.length 0 (some 0) = 0 by simp [HT.sIx]]
    rfl, h]
  simp
section
variable {P : Program} {w : World} {K : PySem.W.Frag} {mg : Str → Option Value} {base : Heap}
abbrev rPlot : Rp Plot := rTup (fCons rInt (fCons rInt (fOne rInt)))
abbrev rTold : Rp Told := rTup (fCons rPlot (fOne rInt))
theorem and255 {x : Int} (h : 0 ≤ x) : Builtin.bitAnd x 255 = x % 256 := by
  rw [PyProof.Rows.bitAnd_pp h (by decide)]
  obtain ⟨n, rfl⟩ := Int.eq_ofNat_of_zero_le h
  rw [Int.toNat_natCast]
  have e : n &&& 255 = n % 256 := Nat.and_two_pow_sub_one_eq_mod n 8
  rw [show (255 : Int).toNat = 255 by decide, e]
  omega
abbrev inB (n m : Int) : List Int := (rgI ((m.toNat : Int) - 1) (-1) m.toNat).map fun a => Builtin.bitAnd (n / 2 ^ (8 * a).toNat) 255
theorem inB_3 {n : Int} (h0 : 0 ≤ n) (h1 : n < 16777216) : inB n 3 = b3 n := by
  have e : rgI (((3 : Int).toNat : Int) - 1) (-1) (3 : Int).toNat = [2, 1, 0] := by decide
  unfold inB
  rw [e]
  show [Builtin.bitAnd (n / 65536) 255, Builtin.bitAnd (n / 256) 255, Builtin.bitAnd (n / 1) 255] = _
  rw [and255 (by omega), and255 (by omega), and255 (by omega), ← inB3 h0 h1, Int.ediv_one]
theorem inB_2 {n : Int} (h0 : 0 ≤ n) (h1 : n < 65536) : inB n 2 = [n / 256, n % 256] := by
  have e : rgI (((2 : Int).toNat : Int) - 1) (-1) (2 : Int).toNat = [1, 0] := by decide
  unfold inB
  rw [e]
  show [Builtin.bitAnd (n / 256) 255, Builtin.bitAnd (n / 1) 255] = _
  rw [and255 (by omega), and255 (by omega), Int.ediv_one, show n / 256 % 256 = n / 256 by omega]
abbrev sp_in_bytes (K : Fg) : Sp := spF K [] (fCons rInt (fOne rInt)) (fun x => 0 ≤ x.2 ∧ x.2 ≤ 8) (rLst rInt) fun x => inB x.1 x.2
abbrev N_in_bytes : List Str := ["number", "many", "at"]
theorem sc_in_bytes : FnScope N_in_bytes ["number", "many"] (defScope s_in_bytes) := ⟨rfl, rfl, rfl, by decide +kernel, rfl, by decide +kernel, by decide +kernel⟩
theorem ok_in_bytes (N : Nm K mg) (T : Bt mg) : FnOk P w K mg base CX0 1 N.in_bytes.f N.in_bytes.fd ["number", "many"] (sp_in_bytes K) := by
  refine fn_m N.in_bytes.F sc_in_bytes [] fun cdv A outer s G H E x Q fam hp hk => ?_
  obtain ⟨n, m⟩ := x
  have hp' : 0 ≤ m ∧ m ≤ 8 := hp
  show DS _ K ⟨[], _, G, H, []⟩ [some ⟨rInt, n⟩, some ⟨rInt, m⟩, none] _ (defBody s_in_bytes) _
  refine s_ret (d_lcP (js := [2]) (ra := rInt) (rb := rInt) (f := fun a : Int => Builtin.bitAnd (n / 2 ^ (8 * a).toNat) 255) [("at", 2)] [2] (fun _ => blkOk_by (N := N_in_bytes) (sc := defScope s_in_bytes) (by decide +kernel)) (w_rev1 T.range T.reversed (d_var 1 ⟨(by walk_at "sc"), ⟨rfl, ?_, fun gg D ys a ha => ?_, hk ⟨rfl, rfl⟩⟩⟩)))
  · rw [rgI_len]
    have : sizeLine ≥ 1000 := by decide
    omega
  · obtain ⟨i, hi⟩ := List.getElem?_of_mem ha
    obtain ⟨h1, h2⟩ := rgI_item hi
    have ba := Bd.of (k := 10) (x := a) (by omega) (by omega)
    have ha0 : 0 ≤ 8 * a := by omega
    exact g_name 2 (d_bin (d_bin (d_var 0 (d_bin (d_int (d_var 2 (o_mul (by walk_at "sc") (o_shr ha0 (d_int (o_and ⟨rfl, rfl⟩))))))))))
theorem pow4 {d : Nat} (h : d < 4) : (256 : Int) ^ d ≤ 256 ^ 4 := by
  rcases d with _ | _ | _ | _ | d
  · decide
  · decide
  · decide
  · decide
  · omega
abbrev sp_from_bytes_of (K : Fg) : Sp := spF K [] (fOne (rLst rInt)) (fun x => x.length ≤ 4 ∧ ∀ n ∈ x, Byte n) rInt fb
theorem sc_from_bytes_of : FnScope ["numbers", "result", "number"] ["numbers"] (defScope s_from_bytes_of) := ⟨rfl, rfl, rfl, by decide +kernel, rfl, by decide +kernel, by decide +kernel⟩
theorem ok_from_bytes_of (N : Nm K mg) (T : Bt mg) : FnOk P w K mg base CX0 1 N.from_bytes_of.f N.from_bytes_of.fd ["numbers"] (sp_from_bytes_of K) := by
  refine fn_m N.from_bytes_of.F sc_from_bytes_of [] fun cdv A outer s G H E ns Q fam hp hk => ?_
  obtain ⟨hl, hb⟩ := hp
  show DS _ K ⟨[], _, G, H, []⟩ [some ⟨(rLst rInt), ns⟩, none, none] _ (defBody s_from_bytes_of) _
  refine s_set 1 (d_int ?_)
  refine s_for (js := [2]) (w_lst (d_var 0 ?_))
  refine ⟨Nat, fun i d => d = i ∧ i ≤ ns.length, fun d => [some ⟨rLst rInt, ns⟩, some ⟨rInt, fb (ns.take d)⟩, none], fun _ => [], ⟨0, ⟨rfl, Nat.zero_le _⟩, ⟨rfl, rfl, trivial⟩, rfl⟩, fun g i x d hx hd => (g_name 2 ?_), fun d hd => ?_⟩
  · obtain ⟨rfl, hd1⟩ := hd
    have hlt := (List.getElem?_eq_some_iff.mp hx).1
    obtain ⟨f0, f1⟩ := fb_bd hb d
    have hpow : (256 : Int) ^ d ≤ 256 ^ 4 := pow4 (by omega)
    have bf := Bd.of (k := 40) (x := fb (ns.take d)) (by omega) (by omega)
    refine s_set 1 (d_bin (d_bin (d_int (d_var 1 (o_mul (by walk_at "sc") (d_var 2 (o_add ?_)))))))
    exact s_next (d + 1) ⟨rfl, hlt⟩ ⟨rfl, congrArg (Slot.mk rInt) (fb_take hx).symm, trivial⟩ rfl
  · obtain ⟨rfl, _⟩ := hd
    refine s_ret (d_var 1 (hk ⟨rfl, ?_⟩))
    rw [List.take_length]
abbrev sp_frame_of (K : Fg) : Sp := spF K [] (fCons rPlot (fOne rInt)) (fun x => OkP x.1 x.2) (rLst rInt) fun x => frm x.1 x.2
theorem sc_frame_of : FnScope ["plot", "count", "numbers", "x", "y", "z"] ["plot", "count"] (defScope s_frame_of) := ⟨rfl, rfl, rfl, by decide +kernel, rfl, by decide +kernel, by decide +kernel⟩
theorem ok_frame_of (N : Nm K mg) (T : Bt mg) : FnOk P w K mg base CX0 2 N.frame_of.f N.frame_of.fd ["plot", "count"] (sp_frame_of K) := by
  refine fn_m N.frame_of.F sc_frame_of [] fun cdv A outer s G H E x Q fam hp hk => ?_
  obtain ⟨⟨px, py, pz⟩, c⟩ := x
  obtain ⟨x0, x1, y0, y1, z0, z1, c0, c1⟩ := hp
  dsimp only at x0 x1 y0 y1 z0 z1 c0 c1
  obtain ⟨t1, hMARK⟩ := T.MARK
  obtain ⟨t2, hMIDDLE⟩ := T.MIDDLE
  obtain ⟨t3, hMH⟩ := T.MIDDLE_HEIGHT
  obtain ⟨t4, hMOD⟩ := T.MODULUS
  show DS _ K ⟨[], _, G, H, []⟩ [some ⟨rPlot, (px, py, pz)⟩, some ⟨rInt, c⟩, none, none, none, none] _ (defBody s_frame_of) _
  refine s_asg (js := [3, 4, 5]) (d_var 0 (g_tup (gs_cons (g_name 3 (gs_cons (g_name 4 (gs_one (g_name 5 ?_))))))))
  dsimp only
  refine s_set 2 (d_lst (ra := rInt) (da_all (d_globI hMARK (da_star (ra := rLst rInt) (d_call N.in_bytes (ok_in_bytes N T) (da_cons (d_bin (d_var 3 (d_globI hMIDDLE (o_add (da_one (d_int (sw_f ⟨by dsimp only; decide, by dsimp only; decide⟩ ⟨_, inferInstance, (da_star (ra := rLst rInt) (d_call N.in_bytes (ok_in_bytes N T) (da_cons (d_bin (d_var 4 (d_globI hMIDDLE (o_add (da_one (d_int (sw_f ⟨by dsimp only; decide, by dsimp only; decide⟩ ⟨_, inferInstance, (da_star (ra := rLst rInt) (d_call N.in_bytes (ok_in_bytes N T) (da_cons (d_bin (d_var 5 (d_globI hMH (o_add (da_one (d_int (sw_f ⟨by dsimp only; decide, by dsimp only; decide⟩ ⟨_, inferInstance, (da_all (d_var 1 (da_all0 ⟨?_, ?_⟩)))⟩))))))))))⟩))))))))))⟩)))))))))))))
  · dsimp only
    rw [inB_3 (by omega) (by omega), inB_3 (by omega) (by omega), inB_2 (by omega) (by omega)]
    exact Nat.le_trans (show 10 ≤ 1000 by decide) (by decide)
  · dsimp only
    rw [inB_3 (by omega) (by omega), inB_3 (by omega) (by omega), inB_2 (by omega) (by omega)]
    have e : 170 :: (b3 (px + 8388608) ++ (b3 (py + 8388608) ++ ([(pz + 32768) / 256, (pz + 32768) % 256] ++ [c]))) = body (px, py, pz) c := rfl
    rw [e]
    refine s_ret (d_lst (ra := rInt) (da_star (ra := rLst rInt) (d_var 2 ⟨_, inferInstance, (da_all (d_bin (d_callB T.sum bt_sum (da_one (d_var 2 (c_sumL (d_globI hMOD (o_mod (by walk_at "sc") (da_all0 ⟨?_, hk ⟨rfl, rfl⟩⟩)))))))))⟩)))
    rw [List.length_append, body_len]
    exact Nat.le_trans (show 11 ≤ 1000 by decide) (by decide)
abbrev sp_plot_at (K : Fg) : Sp := sp1 K [] (fCons (rGh (β := List Int)) (fOne rInt)) (fun x => 0 ≤ x.2 ∧ ∀ n ∈ x.1.2, Byte n) (fun x => ⟨x.1.1, oLst rInt, x.1.2⟩) (rOpt rTold) fun x y => y = pS (x.1.2.drop x.2.toNat)
theorem sc_plot_at : FnScope ["numbers", "at", "frame", "x", "y", "z"] ["numbers", "at"] (defScope s_plot_at) := ⟨rfl, rfl, rfl, by decide +kernel, rfl, by decide +kernel, by decide +kernel⟩
theorem sub_byte {l : List Int} (h : ∀ n ∈ l, Byte n) (a b : Nat) : ∀ n ∈ (l.drop a).take b, Byte n := fun n hn => h n (List.mem_of_mem_drop (List.mem_of_mem_take hn))
theorem ok_plot_at (N : Nm K mg) (T : Bt mg) : FnOk P w K mg base CX0 2 N.plot_at.f N.plot_at.fd ["numbers", "at"] (sp_plot_at K) := by
  refine fn_m N.plot_at.F sc_plot_at [] fun cdv A outer s G H E x Q fam hp hk => ?_
  obtain ⟨⟨q, ns⟩, a⟩ := x
  obtain ⟨ha, hb⟩ := hp
  dsimp only at ha hb
  obtain ⟨t1, hMARK⟩ := T.MARK
  obtain ⟨t2, hMIDDLE⟩ := T.MIDDLE
  obtain ⟨t3, hMH⟩ := T.MIDDLE_HEIGHT
  obtain ⟨t4, hMOD⟩ := T.MODULUS
  obtain ⟨t5, hSIZE⟩ := T.SIZE
  show DS _ K ⟨[], _, G, H, []⟩ [some ⟨rGh, (q, ns)⟩, some ⟨rInt, a⟩, none, none, none, none] [⟨q, oLst rInt, ns⟩] (defBody s_plot_at) _
  refine s_gh 0 ?_
  dsimp only
  refine s_set 2 (d_slice (d_var 0 (do_at (d_var 1 (do_at (d_bin (d_var 1 (d_globI hSIZE (o_add (sl_l ?_))))))))))
  rw [cut_at ns ha (by omega), show (a + 11 - a).toNat = 11 by omega]
  have hk' : ∀ {Γ : Gm} {y : Option Told}, y = pS (ns.drop a.toNat) → RT K ⟨[], _, G, H, []⟩ Γ [⟨q, oLst rInt, ns⟩] (rOpt rTold) y _ := fun e => hk ⟨rfl, e⟩
  clear hk
  unfold pS at hk'
  dsimp only at hk'
  have hfb := sub_byte hb a.toNat 11
  have hl := List.length_take_le 11 (ns.drop a.toNat)
  generalize (ns.drop a.toNat).take 11 = f at *
  refine s_ifP (x := decide ((f.length : Int) < 11) || (!decide (f.getD 0 0 = 170) || !decide (f.getD 10 0 = (f.take 10).sum % 251))) (dt_bool (dp_orP (dt_cmp (d_callB T.len bt_len (da_one (d_var 2 (c_lenL (d_globI hSIZE (o_lt ⟨rfl, rfl⟩))))))) (fun hb => ?_))) (fun hb => ?_) (fun hb => ?_)
  · have h11 : f.length = 11 := by
      have := of_decide_eq_false hb
      omega
    have a0 : atI f 0 = some (f.getD 0 0) := atI_getD 0 (by decide) (by omega)
    have a10 : atI f (-1) = some (f.getD 10 0) := atI_last (by
      rw [List.getLast?_eq_getElem?, h11, List.getD_eq_getElem?_getD, List.getElem?_eq_getElem (by omega)]
      rfl)
    have ec : cutL f none (some (-1)) = f.take 10 := by rw [cut_last f (by omega), h11]
    refine dp_orP (dt_cmp (d_ix (d_var 2 (d_int (i_lst a0 (d_globI hMARK (o_neI ⟨rfl, rfl⟩))))))) (fun hb => (dp_or1 (dt_cmp (d_ix (d_var 2 (d_un (d_int (u_neg (i_lst a10 (d_bin (d_callB T.sum bt_sum (da_one (d_slice (d_var 2 (do_no (do_at (d_un (d_int (u_neg (sl_e ec (c_sumL (d_globI hMOD (o_mod (by walk_at "sc") (o_neI ⟨rfl, rfl⟩))))))))))))))))))))))))
  · refine s_ret (d_none (hk' ?_))
    rw [if_pos]
    simp only [Bool.or_eq_true, decide_eq_true_eq, Bool.not_eq_true', decide_eq_false_iff_not] at hb
    rcases hb with h | h | h
    · exact .inl (by omega)
    · exact .inr (.inl h)
    · exact .inr (.inr h)
  · refine s_out ?_
    simp only [Bool.or_eq_false_iff, decide_eq_false_iff_not, Bool.not_eq_false', decide_eq_true_eq] at hb
    obtain ⟨h1, h2, h3⟩ := hb
    have h11 : f.length = 11 := by omega
    have c1 : cutL f (some 1) (some 4) = (f.drop 1).take 3 := cut_at f (by decide) (by decide)
    have c2 : cutL f (some 4) (some 7) = (f.drop 4).take 3 := cut_at f (by decide) (by decide)
    have c3 : cutL f (some 7) (some 9) = (f.drop 7).take 2 := cut_at f (by decide) (by decide)
    have hle : ∀ i j, j ≤ 4 → ((f.drop i).take j).length ≤ 4 := fun i j h => Nat.le_trans (List.length_take_le _ _) h
    refine s_set 3 (d_bin (d_call N.from_bytes_of (ok_from_bytes_of N T) (da_one (d_slice (d_var 2 (do_at (d_int (do_at (d_int (sl_l (sw_f ⟨by rw [c1]; exact hle 1 3 (by decide), by rw [c1]; exact sub_byte hfb 1 3⟩ (d_globI hMIDDLE (o_sub ?_)))))))))))))
    refine s_set 4 (d_bin (d_call N.from_bytes_of (ok_from_bytes_of N T) (da_one (d_slice (d_var 2 (do_at (d_int (do_at (d_int (sl_l (sw_f ⟨by rw [c2]; exact hle 4 3 (by decide), by rw [c2]; exact sub_byte hfb 4 3⟩ (d_globI hMIDDLE (o_sub ?_)))))))))))))
    refine s_set 5 (d_bin (d_call N.from_bytes_of (ok_from_bytes_of N T) (da_one (d_slice (d_var 2 (do_at (d_int (do_at (d_int (sl_l (sw_f ⟨by rw [c3]; exact hle 7 2 (by decide), by rw [c3]; exact sub_byte hfb 7 2⟩ (d_globI hMH (o_sub ?_)))))))))))))
    have a9 : atI f 9 = some (f.getD 9 0) := atI_getD 0 (by decide) (by omega)
    refine s_ret (d_some (d_tup (da_cons (d_tup (da_cons (d_var 3 (da_cons (d_var 4 (da_one (d_var 5 (da_one (d_ix (d_var 2 (d_int (i_lst a9 (hk' ?_))))))))))))))))
    rw [if_neg, c1, c2, c3]
    rintro (h | h | h)
    · omega
    · exact h h2
    · exact h h3
end
end Law


set_option Elab.async false
set_option linter.all false
set_option maxRecDepth 100000
set_option maxHeartbeats 4100000
namespace Law
open PySem L2 Evl Sk M33
local macro_rules | `(tactic| walk_at "sc") => `(tactic| first | omega | assumption | (with_reducible exact mulOk) | (with_reducible exact smOk) | (with_reducible exact ⟨by decide, smOk⟩) | decide | (simp only [List.length_cons, List.length_nil]; decide) | exact divOk (by omega))
local macro_rules | `(tactic| walk_at "drw") => `(tactic| first | omega | (dsimp only at *; omega) | (dsimp only at *; split <;> omega))
theorem szl : 100000 ≤ sizeLine := by decide
theorem len11 {f : List Int} (h : f.length = 11) : ∃ a0 a1 a2 a3 a4 a5 a6 a7 a8 a9 a10, f = [a0, a1, a2, a3, a4, a5, a6, a7, a8, a9, a10] := by
  match f, h with
  | [a0, a1, a2, a3, a4, a5, a6, a7, a8, a9, a10], _ => exact ⟨_, _, _, _, _, _, _, _, _, _, _, rfl⟩
section
variable {P : Program} {w : World} {K : PySem.W.Frag} {mg : Str → Option Value} {base : Heap}
abbrev Gh (x : Addr × List Int) : Own := ⟨x.1, oLst rInt, x.2⟩
structure StrOk (ns : List Int) : Prop where
  len : ns.length ≤ 5000
  by_ : ∀ n ∈ ns, Byte n
structure RdOk (ns : List Int) (d : List Told × Nat) : Prop where
  eq : d.1 ++ rdS (ns.drop d.2) = rdS ns
  le : d.1.length ≤ d.2
theorem rd_none' {ns : List Int} {d : List Told × Nat} (h : RdOk ns d) (hl : d.2 + 11 ≤ ns.length) (e : pS (ns.drop d.2) = none) : RdOk ns (d.1, d.2 + 1) := by
  refine ⟨?_, Nat.le_trans h.le (Nat.le_succ _)⟩
  rw [← h.eq, rd_none (by rw [List.length_drop]; omega) e, List.drop_drop]
theorem rd_some' {ns : List Int} {d : List Told × Nat} {t : Told} (h : RdOk ns d) (hl : d.2 + 11 ≤ ns.length) (e : pS (ns.drop d.2) = some t) : RdOk ns (d.1 ++ [t], d.2 + 11) := by
  refine ⟨?_, by rw [List.length_append]; have := h.le; show _ + 1 ≤ _; dsimp only; omega⟩
  rw [← h.eq, rd_some (by rw [List.length_drop]; omega) e, List.drop_drop, List.append_assoc]
  rfl
theorem rd_end {ns : List Int} {d : List Told × Nat} (h : RdOk ns d) (hl : ns.length < d.2 + 11) : d.1 = rdS ns := by
  rw [← h.eq, rd_short (by rw [List.length_drop]; omega), List.append_nil]
abbrev sp_read_stream (K : Fg) : Sp := sp1 K [] (fOne (rGh (β := List Int))) (fun x => StrOk x.2) Gh (rLst rTold) fun x y => y = rdS x.2
theorem sc_read_stream : FnScope ["numbers", "found", "at", "told"] ["numbers"] (defScope s_read_stream) := ⟨rfl, rfl, rfl, by decide +kernel, rfl, by decide +kernel, by decide +kernel⟩
theorem ok_read_stream (N : Nm K mg) (T : Bt mg) : FnOk P w K mg base CX0 3 N.read_stream.f N.read_stream.fd ["numbers"] (sp_read_stream K) := by
  refine fn_m N.read_stream.F sc_read_stream [] fun cdv A outer s G H E x Q fam hp hk => ?_
  obtain ⟨q, ns⟩ := x
  obtain ⟨hlen, hby⟩ := hp
  dsimp only at hlen hby
  obtain ⟨t5, hSIZE⟩ := T.SIZE
  show DS _ K ⟨[], _, G, H, []⟩ [some ⟨rGh, (q, ns)⟩, none, none, none] [⟨q, oLst rInt, ns⟩] (defBody s_read_stream) _
  refine s_gh 0 ?_
  dsimp only
  refine s_set 1 (d_lstO (ra := rTold) (da_all0 ⟨(by walk_at "sc"), fun q1 hq1 => ?_⟩))
  refine s_set 2 (d_int ?_)
  refine s_while (δ := List Told × Nat) (fun d => RdOk ns d) (fun d => ns.length + 1 - d.2) (fun d => [some ⟨rAdr, q⟩, some ⟨rAdr, q1⟩, some ⟨rInt, (d.2 : Int)⟩, none]) (fun d => [⟨q1, oLst rTold, d.1⟩, ⟨q, oLst rInt, ns⟩]) ([], 0) ⟨rfl, Nat.le_refl 0⟩ ⟨rfl, rfl, rfl, trivial⟩ rfl fun d hd => dt_then (dt_cmp (d_bin (d_var 2 (d_globI hSIZE (o_add (d_callB T.len bt_len (da_one (d_var 0 (c_lenG (o_le ⟨rfl, rfl⟩)))))))))) ⟨fun hb => ?_, fun hb => ?_⟩
  · have hb' := of_decide_eq_true hb
    have hl : d.2 + 11 ≤ ns.length := by omega
    have hle := hd.le
    refine s_set 3 (d_then (x := pS (ns.drop d.2)) (d_call N.plot_at (ok_plot_at N T) (da_cons (d_gh ns (d_var 0 (da_one (d_var 2 (sw_1 (q := q) ⟨Int.natCast_nonneg _, hby⟩ (fun y hy => ⟨by simpa using hy, rfl⟩)))))))) ?_)
    cases hp : pS (ns.drop d.2) with
    | none =>
      refine s_ifP (dt_cmp (d_var 3 (d_non (o_isN ⟨rfl, rfl⟩)))) (fun hb => ?_) (fun hb => Bool.noConfusion hb)
      refine s_aug 2 ip_add (d_int (s_out ?_))
      exact s_next (d.1, d.2 + 1) ⟨rd_none' hd hl hp, by dsimp only; omega⟩ ⟨rfl, rfl, rfl, trivial⟩ rfl
    | some t =>
      refine s_ifP (dt_cmp (d_var 3 (d_non (o_isN ⟨rfl, rfl⟩)))) (fun hb => Bool.noConfusion hb) (fun hb => ?_)
      refine s_some 3 ?_
      refine s_expr (d_app (ra := rTold) (d_var 1 ⟨_, _, inferInstance, (d_var 3 ⟨_, _, inferInstance, ?_, ?_⟩)⟩))
      · have := szl
        omega
      · refine s_aug 2 ip_add (d_globI hSIZE (s_out ?_))
        exact s_next (d.1 ++ [t], d.2 + 11) ⟨rd_some' hd hl hp, by dsimp only; omega⟩ ⟨rfl, rfl, rfl, trivial⟩ rfl
  · have hb' := of_decide_eq_false hb
    exact s_ret (d_var 1 (rt_frz hq1 (hk ⟨rfl, show d.1 = rdS ns from rd_end hd (by omega)⟩)))
abbrev sp_read (K : Fg) : Sp := sp1 K [] (fOne (rGh (β := List Int))) (fun x => StrOk x.2) Gh (rLst rTold) fun x y => y = rdS x.2
theorem sc_read : FnScope ["_law_numbers", "_law_found", "_law_at", "_law_k", "_law_frame_here", "_law_x", "_law_y"] ["_law_numbers"] (defScope s_read) := ⟨rfl, rfl, rfl, by decide +kernel, rfl, by decide +kernel, by decide +kernel⟩
theorem ok_read (N : Nm K mg) (T : Bt mg) : FnOk P w K mg base CX0 1 N.read.f N.read.fd ["_law_numbers"] (sp_read K) := by
  refine fn_m N.read.F sc_read [] fun cdv A outer s G H E x Q fam hp hk => ?_
  obtain ⟨q, ns⟩ := x
  obtain ⟨hlen, hby⟩ := hp
  dsimp only at hlen hby
  show DS _ K ⟨[], _, G, H, []⟩ [some ⟨rGh, (q, ns)⟩, none, none, none, none, none, none] [⟨q, oLst rInt, ns⟩] (defBody s_read) _
  refine s_gh 0 ?_
  dsimp only
  refine s_set 1 (d_lstO (ra := rTold) (da_all0 ⟨(by walk_at "sc"), fun q1 hq1 => ?_⟩))
  refine s_set 2 (d_int ?_)
  refine s_for (js := [3]) (w_rng1 T.range (d_callB T.len bt_len (da_one (d_var 0 (c_lenG ⟨(by omega), ?_⟩)))))
  refine ⟨List Told × Nat, fun i d => RdOk ns d ∧ i ≤ d.2, fun d => [some ⟨rAdr, q⟩, some ⟨rAdr, q1⟩, some ⟨rInt, (d.2 : Int)⟩, none, none, none, none], fun d => [⟨q1, oLst rTold, d.1⟩, ⟨q, oLst rInt, ns⟩], ⟨([], 0), ⟨⟨rfl, Nat.le_refl 0⟩, Nat.le_refl 0⟩, ⟨rfl, rfl, rfl, trivial⟩, rfl⟩, fun g i x d hx hd => (g_name 3 ?_), fun d hd => ?_⟩
  · obtain ⟨hd, hi⟩ := hd
    have hle := hd.le
    refine s_ifP (dt_cmp (d_bin (d_var 2 (d_int (o_add (d_callB T.len bt_len (da_one (d_var 0 (c_lenG (o_gt ⟨rfl, rfl⟩)))))))))) (fun hb => ?_) (fun hb => ?_)
    · have hb' := of_decide_eq_true hb
      refine s_brkI ?_
      exact s_ret (d_var 1 (rt_frz hq1 (hk ⟨rfl, show d.1 = rdS ns from rd_end hd (by omega)⟩)))
    · refine s_out ?_
      have hb' := of_decide_eq_false hb
      have hl : d.2 + 11 ≤ ns.length := by omega
      have ec : cutL ns (some (d.2 : Int)) (some ((d.2 : Int) + 11)) = (ns.drop d.2).take 11 := by
        rw [cut_at ns (Int.natCast_nonneg _) (by omega), Int.toNat_natCast, show ((d.2 : Int) + 11 - d.2).toNat = 11 by omega]
      refine s_set 4 (d_slice (d_var 0 (do_at (d_var 2 (do_at (d_bin (d_var 2 (d_int (o_add (sl_e ec ?_))))))))))
      have hfb := sub_byte hby d.2 11
      have h11 : ((ns.drop d.2).take 11).length = 11 := by
        rw [List.length_take, List.length_drop]
        omega
      have hpS : pS (ns.drop d.2) = pS ((ns.drop d.2).take 11) := by
        unfold pS
        rw [List.take_take]
        rfl
      have rs := fun t => @rd_some' ns d t hd hl
      have rn := rd_none' hd hl
      rw [hpS] at rn rs
      obtain ⟨a0, a1, a2, a3, a4, a5, a6, a7, a8, a9, a10, ef⟩ := len11 h11
      rw [ef] at hfb rn rs ⊢
      have hB : ∀ n ∈ [a0, a1, a2, a3, a4, a5, a6, a7, a8, a9, a10], Bd 10 n := fun n hn => Bd.of (by have := (hfb n hn).lo; omega) (by have := (hfb n hn).hi; omega)
      have b1 : Bd 10 a1 := hB a1 (by simp)
      have b2 : Bd 10 a2 := hB a2 (by simp)
      have b4 : Bd 10 a4 := hB a4 (by simp)
      have b5 : Bd 10 a5 := hB a5 (by simp)
      have b7 : Bd 10 a7 := hB a7 (by simp)
      have e10 : cutL [a0, a1, a2, a3, a4, a5, a6, a7, a8, a9, a10] none (some 10) = [a0, a1, a2, a3, a4, a5, a6, a7, a8, a9] := cut_to _ (by decide)
      refine s_ifP (dt_bool (dp_andP (dt_cmp (d_ix (d_var 4 (d_int (i_lst (x := a0) rfl (d_int (o_eqI ⟨rfl, rfl⟩))))))) (fun hb => (dp_and1 (dt_cmp (d_bin (d_callT T.int bt_int (da_one (d_callB T.sum bt_sum (da_one (d_slice (d_var 4 (do_no (do_at (d_int (sl_e e10 (c_sumL (c_int (d_int (o_mod (by walk_at "sc") (d_ix (d_var 4 (d_int (i_lst (x := a10) rfl (o_eqI ⟨rfl, rfl⟩))))))))))))))))))))))))) (fun hb => ?_) (fun hb => ?_)
      · simp only [Bool.and_eq_true, decide_eq_true_eq] at hb
        refine s_set 5 (d_bin (d_bin (d_bin (d_bin (d_ix (d_var 4 (d_int (i_lst (x := a1) rfl (d_int (o_mul (by walk_at "sc") (d_bin (d_ix (d_var 4 (d_int (i_lst (x := a2) rfl (d_int (o_mul (by walk_at "sc") (o_add (d_ix (d_var 4 (d_int (i_lst (x := a3) rfl (o_add (d_int (o_sub ?_)))))))))))))))))))))))))
        refine s_set 6 (d_bin (d_bin (d_bin (d_bin (d_ix (d_var 4 (d_int (i_lst (x := a4) rfl (d_int (o_mul (by walk_at "sc") (d_bin (d_ix (d_var 4 (d_int (i_lst (x := a5) rfl (d_int (o_mul (by walk_at "sc") (o_add (d_ix (d_var 4 (d_int (i_lst (x := a6) rfl (o_add (d_int (o_sub ?_)))))))))))))))))))))))))
        refine s_expr (d_app (ra := rTold) (d_var 1 ⟨_, _, inferInstance, (d_tup (da_cons (d_tup (da_cons (d_var 5 (da_cons (d_var 6 (da_one (d_bin (d_bin (d_bin (d_ix (d_var 4 (d_int (i_lst (x := a7) rfl (d_int (o_mul (by walk_at "sc") (d_ix (d_var 4 (d_int (i_lst (x := a8) rfl (o_add (d_int (o_sub (da_one (d_ix (d_var 4 (d_int (i_lst (x := a9) rfl ⟨_, _, inferInstance, ?_, ?_⟩)))))))))))))))))))))))))))))⟩))
        · have := szl
          omega
        · refine s_set 2 (d_bin (d_var 2 (d_int (o_add (s_out ?_)))))
          refine s_next (d.1 ++ [((a1 * 65536 + a2 * 256 + a3 - 8388608, a4 * 65536 + a5 * 256 + a6 - 8388608, a7 * 256 + a8 - 32768), a9)], d.2 + 11) ⟨rs _ ?_, by dsimp only; omega⟩ ⟨rfl, rfl, rfl, trivial⟩ rfl
          unfold pS
          rw [if_neg]
          · show some ((fb [a1, a2, a3] - 8388608, fb [a4, a5, a6] - 8388608, fb [a7, a8] - 32768), a9) = _
            rw [fb3, fb3, fb2]
          · rintro (h | h | h)
            · exact Nat.lt_irrefl 11 h
            · exact h hb.1
            · exact h hb.2.symm
      · refine s_set 2 (d_bin (d_var 2 (d_int (o_add (s_out ?_)))))
        refine s_next (d.1, d.2 + 1) ⟨rn ?_, by dsimp only; omega⟩ ⟨rfl, rfl, rfl, trivial⟩ rfl
        unfold pS
        rw [if_pos]
        simp only [Bool.and_eq_false_iff, decide_eq_false_iff_not] at hb
        rcases hb with h | h
        · exact .inr (.inl h)
        · exact .inr (.inr fun z => h z.symm)
  · obtain ⟨hd, hi⟩ := hd
    rw [rgI_len] at hi
    exact s_ret (d_var 1 (rt_frz hq1 (hk ⟨rfl, show d.1 = rdS ns from rd_end hd (by omega)⟩)))
structure RgOk (x : Addr × Int × Int) : Prop where
  lo : -8388608 ≤ x.2.1
  l1 : x.2.1 ≤ -1
  h1 : 170 ≤ x.2.2
  hi : x.2.2 ≤ 8388607
abbrev sp_ranged (K : Fg) : Sp := sp1 K [] (fCons rAdr (fCons rInt (fOne rInt))) RgOk (fun x => ⟨x.1, oSt, ()⟩) rInt fun x y => x.2.1 ≤ y ∧ y ≤ x.2.2
theorem sc_ranged : FnScope ["_law_state", "_law_low", "_law_high"] ["_law_state", "_law_low", "_law_high"] (defScope s_ranged) := ⟨rfl, rfl, rfl, by decide +kernel, rfl, by decide +kernel, by decide +kernel⟩
theorem dr_ok' {c : Int} (h : 0 < c ∧ c ≤ 100000000) : 0 < c ∧ Sm c := ⟨h.1, by
  have := Bd.of (k := 30) (x := c) (by omega) (by omega)
  exact smOk⟩
theorem ok_ranged (N : Nm K mg) (T : Bt mg) : FnOk P w K mg base CX0 3 N.ranged.f N.ranged.fd ["_law_state", "_law_low", "_law_high"] (sp_ranged K) := by
  refine fn_m N.ranged.F sc_ranged [] fun cdv A outer s G H E x Q fam hp hk => ?_
  obtain ⟨st, lo, hi⟩ := x
  obtain ⟨h1, h2, h3, h4⟩ := hp
  dsimp only at h1 h2 h3 h4
  show DS _ K ⟨[], _, G, H, []⟩ [some ⟨rAdr, st⟩, some ⟨rInt, lo⟩, some ⟨rInt, hi⟩] [⟨st, oSt, ()⟩] (defBody s_ranged) _
  refine s_ret (d_call N.pick (ok_pick (ra := rInt) N T) (da_cons (d_var 0 (da_one (d_lst (ra := rInt) (da_all (d_var 1 (da_all (d_var 2 (da_all (d_int (da_all (d_un (d_int (u_neg (da_all (d_int (da_all (d_bin (d_var 1 (d_call N.draw (ok_draw N T) (da_cons (d_var 0 (da_one (d_bin (d_bin (d_var 2 (d_var 1 (o_sub (d_int (o_add (sw_1 (q := st) (dr_ok' (by walk_at "drw")) (fun n hn => (o_add (da_all (d_bin (d_var 1 (d_call N.draw (ok_draw N T) (da_cons (d_var 0 (da_one (d_bin (d_bin (d_var 2 (d_var 1 (o_sub (d_int (o_add (sw_1 (q := st) (dr_ok' (by walk_at "drw")) (fun m hm => (o_add (da_all0 ⟨(by walk_at "sc"), (sw_1 (q := st) (by walk_at "sc") (fun c hc => hk ⟨rfl, ?_⟩))⟩))))))))))))))))))))))))))))))))))))))))))))))))))))
  simp only [List.mem_cons, List.not_mem_nil, or_false] at hc
  dsimp only at hn hm
  rcases hc with e | e | e | e | e | e | e <;> subst e <;> dsimp only <;> omega
abbrev sp_frame (K : Fg) : Sp := spF K [] (fCons rPlot (fOne rInt)) (fun _ => True) (rLst rInt) fun x => frm x.1 x.2
theorem sc_frame : FnScope ["_law_plot", "_law_count", "_law_numbers", "_law_number", "_law_height"] ["_law_plot", "_law_count"] (defScope s_frame) := ⟨rfl, rfl, rfl, by decide +kernel, rfl, by decide +kernel, by decide +kernel⟩
theorem ok_frame (N : Nm K mg) (T : Bt mg) : FnOk P w K mg base CX0 1 N.frame.f N.frame.fd ["_law_plot", "_law_count"] (sp_frame K) := by
  refine fn_m N.frame.F sc_frame [] fun cdv A outer s G H E x Q fam hp hk => ?_
  obtain ⟨⟨px, py, pz⟩, c⟩ := x
  show DS _ K ⟨[], _, G, H, []⟩ [some ⟨rPlot, (px, py, pz)⟩, some ⟨rInt, c⟩, none, none, none] _ (defBody s_frame) _
  refine s_set 2 (d_lstO (ra := rInt) (da_all (d_int (da_all0 ⟨(by walk_at "sc"), fun q hq => ?_⟩))))
  refine s_for (js := [3]) (w_lst (d_lst (ra := rInt) (da_all (d_bin (d_ix (d_var 0 (d_int (i_tup 0 (d_int (o_add (da_all (d_bin (d_ix (d_var 0 (d_int (i_tup 1 (d_int (o_add (da_all0 ⟨(by walk_at "sc"), ?_⟩)))))))))))))))))))
  dsimp only
  refine ⟨List Int, fun i d => i ≤ 2 ∧ d = [170] ++ ([px + 8388608, py + 8388608].take i).flatMap b3, fun _ => [some ⟨rPlot, (px, py, pz)⟩, some ⟨rInt, c⟩, some ⟨rAdr, q⟩, none, none], fun d => [⟨q, oLst rInt, d⟩], ⟨[170], ⟨by decide, rfl⟩, ⟨rfl, rfl, rfl, trivial⟩, rfl⟩, fun g i x d hx hd => (g_name 3 ?_), fun d hd => ?_⟩
  · obtain ⟨_, hd⟩ := hd
    have hi2 : i < 2 := (List.getElem?_eq_some_iff.mp hx).1
    refine s_expr (d_ext (rc := rInt) (d_var 2 ⟨_, _, inferInstance, d_lst (ra := rInt) (da_all (d_bin (d_var 3 (d_int (o_div (divOk (by decide)) (da_all (d_bin (d_callT T.int bt_int (da_one (d_bin (d_var 3 (d_int (o_div (divOk (by decide)) (c_int (d_int (o_mod (by walk_at "sc") (da_all (d_bin (d_callT T.int bt_int (da_one (d_var 3 (c_int (d_int (o_mod (by walk_at "sc") (da_all0 ⟨(by walk_at "sc"), ⟨_, _, _, inferInstance, inferInstance, ?_, ?_⟩⟩)))))))))))))))))))))))))⟩))
    · rw [hd, List.length_append]
      have := szl
      rcases i with _ | _ | i
      · exact Nat.le_trans (show 4 ≤ 1000 by decide) (by omega)
      · exact Nat.le_trans (show 7 ≤ 1000 by decide) (by omega)
      · omega
    · refine s_next (d ++ b3 x) ⟨hi2, ?_⟩ ⟨rfl, rfl, rfl, trivial⟩ rfl
      rw [take_snoc hx, List.flatMap_append, hd, List.append_assoc]
      simp
  · obtain ⟨_, hd⟩ := hd
    have hd' : d = [170] ++ b3 (px + 8388608) ++ b3 (py + 8388608) := hd
    have hl7 : d.length = 7 := by
      rw [hd']
      rfl
    refine s_set 4 (d_bin (d_ix (d_var 0 (d_int (i_tup 2 (d_int (o_add ?_)))))))
    refine s_expr (d_ext (rc := rInt) (d_var 2 ⟨_, _, inferInstance, d_lst (ra := rInt) (da_all (d_bin (d_var 4 (d_int (o_div (divOk (by decide)) (da_all (d_bin (d_callT T.int bt_int (da_one (d_var 4 (c_int (d_int (o_mod (by walk_at "sc") (da_all (d_var 1 (da_all0 ⟨(by walk_at "sc"), ⟨_, _, _, inferInstance, inferInstance, ?_, ?_⟩⟩))))))))))))))))⟩))
    · rw [hl7]
      exact Nat.le_trans (show 10 ≤ 1000 by decide) (by decide)
    · have eb : d ++ [(pz + 32768) / 256, (pz + 32768) % 256, c] = body (px, py, pz) c := by
        rw [hd']
        rfl
      dsimp only
      rw [eb]
      refine s_expr (d_app (ra := rInt) (d_var 2 ⟨_, _, inferInstance, (d_bin (d_callT T.int bt_int (da_one (d_callB T.sum bt_sum (da_one (d_var 2 (c_sumG (c_int (d_int (o_mod (by walk_at "sc") ⟨_, _, inferInstance, ?_, ?_⟩))))))))))⟩))
      · rw [body_len]
        exact Nat.lt_of_lt_of_le (show 10 < 1000 by decide) (by decide)
      · exact s_ret (d_var 2 (rt_frz hq (hk ⟨rfl, rfl⟩)))
structure NsOk (ns : List Int) : Prop where
  len : ns.length ≤ 12
  by_ : ∀ n ∈ ns, Byte n
  nm : ∀ n ∈ ns, n ≠ 170
abbrev sp_noise (K : Fg) : Sp := sp1N K [] (fOne rAdr) (fun _ => True) (fun x => ⟨x, oSt, ()⟩) (oLst rInt) fun _ d => NsOk d
theorem sc_noise : FnScope ["_law_state", "_law_numbers", "_law_k", "_law_byte"] ["_law_state"] (defScope s_noise) := ⟨rfl, rfl, rfl, by decide +kernel, rfl, by decide +kernel, by decide +kernel⟩
theorem ok_noise (N : Nm K mg) (T : Bt mg) : FnOk P w K mg base CX0 2 N.noise.f N.noise.fd ["_law_state"] (sp_noise K) := by
  refine fn_m N.noise.F sc_noise [] fun cdv A outer s G H E st Q fam hp hk => ?_
  show DS _ K ⟨[], _, G, H, []⟩ [some ⟨rAdr, st⟩, none, none, none] [⟨st, oSt, ()⟩] (defBody s_noise) _
  refine s_set 1 (d_lstO (ra := rInt) (da_all0 ⟨(by walk_at "sc"), fun q1 hq1 => ?_⟩))
  refine s_for (js := [2]) (w_rng1 T.range (d_call N.draw (ok_draw N T) (da_cons (d_var 0 (da_one (d_int (sw_1 (q := st) (dr_ok (by walk_at "drw")) (fun n hn => ⟨by walk_at "drw", ?_⟩))))))))
  have hn' : 0 ≤ n ∧ n < 13 := hn
  refine ⟨List Int, fun i d => d.length = i ∧ (∀ n ∈ d, Byte n) ∧ ∀ n ∈ d, n ≠ 170, fun _ => [some ⟨rAdr, st⟩, some ⟨rAdr, q1⟩, none, none], fun d => [⟨q1, oLst rInt, d⟩, ⟨st, oSt, ()⟩], ⟨[], ⟨rfl, by simp, by simp⟩, ⟨rfl, rfl, trivial⟩, rfl⟩, fun g i x d hx hd => (g_name 2 ?_), fun d hd => ?_⟩
  · obtain ⟨h1, h2, h3⟩ := hd
    obtain ⟨hlt, _⟩ := rgI_item hx
    refine s_set 3 (d_abs (fun b : Int => 0 ≤ b ∧ b < 255) (fun b hb => ?_) (d_call N.draw (ok_draw N T) (da_cons (d_var 0 (da_one (d_int (sw_1 (q := st) (dr_ok (by walk_at "drw")) (fun n hn => ⟨hn, rfl⟩))))))))
    have hl : d.length < sizeLine := by
      have := szl
      omega
    refine s_expr (d_app (ra := rInt) (d_var 1 ⟨_, _, inferInstance, (d_abs (fun c : Int => Byte c ∧ c ≠ 170) (fun c hc => ⟨_, _, inferInstance, hl, ?_⟩) (d_iteP (dt_cmp (d_var 3 (d_int (o_lt ⟨rfl, rfl⟩)))) (fun hb2 => (d_var 3 ⟨?_, rfl⟩)) (fun hb2 => (d_bin (d_var 3 (d_int (o_add ⟨?_, rfl⟩)))))))⟩))
    · refine s_next (d ++ [c]) ⟨by rw [List.length_append, h1]; rfl, fun n hn => ?_, fun n hn => ?_⟩ ⟨rfl, rfl, trivial⟩ rfl
      · rcases List.mem_append.mp hn with z | z
        · exact h2 n z
        · rw [List.mem_singleton] at z
          exact z ▸ hc.1
      · rcases List.mem_append.mp hn with z | z
        · exact h3 n z
        · rw [List.mem_singleton] at z
          exact z ▸ hc.2
    · have := of_decide_eq_true hb2
      exact ⟨⟨by omega, by omega⟩, by omega⟩
    · have := of_decide_eq_false hb2
      exact ⟨⟨by omega, by omega⟩, by omega⟩
  · obtain ⟨h1, h2, h3⟩ := hd
    rw [rgI_len] at h1
    exact s_ret (d_var 1 (hk ⟨d, ⟨by omega, h2, h3⟩, rfl⟩))
end
end Law


set_option Elab.async false
set_option linter.all false
set_option maxRecDepth 100000
set_option maxHeartbeats 4100000
namespace Law
open PySem L2 Evl Sk M33
local macro_rules | `(tactic| walk_at "sc") => `(tactic| first | omega | assumption | (with_reducible exact mulOk) | (with_reducible exact smOk) | (with_reducible exact ⟨by decide, smOk⟩) | decide | (simp only [List.length_cons, List.length_nil]; decide) | exact divOk (by omega))
local macro_rules | `(tactic| walk_at "drw") => `(tactic| first | omega | (dsimp only at *; omega) | (dsimp only at *; split <;> omega))
section
variable {P : Program} {w : World} {K : PySem.W.Frag} {mg : Str → Option Value} {base : Heap}
abbrev St3 : Type := Addr × List Int × List Told
structure LpOk (i : Nat) (d : St3) : Prop where
  len : d.2.1.length ≤ 12 + 23 * i
  by_ : ∀ n ∈ d.2.1, Byte n
  sn : Sent d.2.1 d.2.2
  cnt : d.2.2.length = i
abbrev sp_law (K : Fg) : Sp := sp0 K [] (fOne (rSeq rInt)) (fun ns => ns.length ≤ 63) rBool fun _ y => y = true
abbrev N_law : List Str := ["_law_script", "_law_state", "_law_stream", "_law_sent", "_law_k", "_law_kept", "_law_found", "_law_x", "_law_y", "_law_plot", "_law_count", "_law_frame_here", "_law_at", "_law_kind"]
theorem sc_law : FnScope N_law ["_law_script"] (defScope s_law) := ⟨rfl, rfl, rfl, by decide +kernel, rfl, by decide +kernel, by decide +kernel⟩
theorem byte_set {l : List Int} (h : ∀ n ∈ l, Byte n) {i : Nat} {c : Int} (hc : Byte c) : ∀ n ∈ l.set i c, Byte n := fun n hn => by
  rcases List.mem_or_eq_of_mem_set hn with z | z
  · exact h n z
  · exact z ▸ hc
theorem ok_law (N : Nm K mg) (T : Bt mg) : FnOk P w K mg base CX0 4 N.law.f N.law.fd ["_law_script"] (sp_law K) := by
  refine fn_m N.law.F sc_law [] fun cdv A outer s G H E x Q fam hp hk => ?_
  show DS _ K ⟨[], _, G, H, []⟩ [some ⟨(rSeq rInt), x⟩, none, none, none, none, none, none, none, none, none, none, none, none, none] _ (defBody s_law) _
  refine s_set 1 (d_call N.start (ok_start N T) (da_one (d_var 0 (sw_n hp (fun q d _ => ?_)))))
  refine s_set 2 (d_call N.noise (ok_noise N T) (da_one (d_var 1 (sw_1N (q := q) trivial (fun qn ns hns => ?_)))))
  refine s_set 3 (d_lstO (ra := rTold) (da_all0 ⟨(by walk_at "sc"), fun q3 hq3 => ?_⟩))
  refine s_perm (List.Perm.swap _ _ _) ?_
  refine s_for (js := [4]) (w_rng1 T.range (d_call N.draw (ok_draw N T) (da_cons (d_var 1 (da_one (d_int (sw_1 (q := q) (dr_ok (by walk_at "drw")) (fun n hn => ⟨by walk_at "drw", ?_⟩))))))))
  have hn7 : 0 ≤ n ∧ n < 7 := hn
  refine ⟨St3, fun i d => LpOk i d, fun d => [some ⟨rSeq rInt, x⟩, some ⟨rAdr, q⟩, some ⟨rAdr, d.1⟩, some ⟨rAdr, q3⟩, none, none, none, none, none, none, none, none, none, none], fun d => [⟨d.1, oLst rInt, d.2.1⟩, ⟨q3, oLst rTold, d.2.2⟩, ⟨q, oSt, ()⟩], ⟨(qn, ns, []), ⟨by have := hns.len; dsimp only; omega, hns.by_, Sent.init hns.nm, rfl⟩, ⟨rfl, rfl, rfl, rfl, trivial⟩, rfl⟩, fun g i xk d hx hd => (g_name 4 ?_), fun d hd => ?_⟩
  · obtain ⟨hi7, _⟩ := rgI_item hx
    obtain ⟨qs, sx, ts⟩ := d
    obtain ⟨h1, h2, h3, h4⟩ := hd
    dsimp only at h1 h2 h3 h4
    dsimp only
    refine s_set 7 (d_abs (fun c : Int => -8388608 ≤ c ∧ c ≤ 8388607) (fun px hpx => ?_) (d_call N.ranged (ok_ranged N T) (da_cons (d_var 1 (da_cons (d_un (d_int (u_neg (da_one (d_int (sw_1 (q := q) ⟨by walk_at "drw", by walk_at "drw", by walk_at "drw", by walk_at "drw"⟩ (fun c hc => ⟨by walk_at "drw", rfl⟩))))))))))))
    refine s_set 8 (d_abs (fun c : Int => -8388608 ≤ c ∧ c ≤ 8388607) (fun py hpy => ?_) (d_call N.ranged (ok_ranged N T) (da_cons (d_var 1 (da_cons (d_un (d_int (u_neg (da_one (d_int (sw_1 (q := q) ⟨by walk_at "drw", by walk_at "drw", by walk_at "drw", by walk_at "drw"⟩ (fun c hc => ⟨by walk_at "drw", rfl⟩))))))))))))
    refine s_set 9 (d_tup (da_cons (d_var 7 (da_cons (d_var 8 (da_one (d_abs (fun c : Int => -32768 ≤ c ∧ c ≤ 32767) (fun pz hpz => ?_) (d_call N.ranged (ok_ranged N T) (da_cons (d_var 1 (da_cons (d_un (d_int (u_neg (da_one (d_int (sw_1 (q := q) ⟨by walk_at "drw", by walk_at "drw", by walk_at "drw", by walk_at "drw"⟩ (fun c hc => ⟨by walk_at "drw", rfl⟩))))))))))))))))))
    refine s_set 10 (d_abs (fun c : Int => 0 ≤ c ∧ c < 256) (fun ct hct => ?_) (d_call N.draw (ok_draw N T) (da_cons (d_var 1 (da_one (d_int (sw_1 (q := q) (dr_ok (by walk_at "drw")) (fun n hn => ⟨hn, rfl⟩))))))))
    have hok : OkP (px, py, pz) ct := ⟨hpx.1, hpx.2, hpy.1, hpy.2, hpz.1, hpz.2, hct.1, hct.2⟩
    refine s_set 11 (d_call N.frame_of (ok_frame_of N T) (da_cons (d_var 9 (da_one (d_var 10 (sw_f hok ?_))))))
    refine s_ifP (dt_bool (dp_orP (dt_notP (dt_val (d_callB T.isi bt_isi (da_cons (d_var 11 (da_one (d_cls T.list bt_list (c_isi (b := true) (kit_ty isi_list_list) ⟨rfl, rfl⟩)))))))) (fun hb => (dp_or1 (dt_cmp (d_var 11 (d_call N.frame (ok_frame N T) (da_cons (d_var 9 (da_one (d_var 10 (sw_f trivial (o_neD (fun _ _ => trivial) (fun _ _ => trivial) ⟨rfl, rfl⟩))))))))))))) (fun hb => ?_) (fun hb => ?_)
    · exfalso
      simp at hb
    · refine s_out ?_
      refine s_expr (d_app (ra := rTold) (d_var 3 ⟨_, _, inferInstance, (d_tup (da_cons (d_var 9 (da_one (d_var 10 ⟨_, _, inferInstance, ?_, ?_⟩)))))⟩))
      · rw [h4]
        have := szl
        omega
      · have hfl : (frm (px, py, pz) ct).length = 11 := frm_len _ _
        have z := szl
        refine s_set 2 (d_bin (rb := rAdr) (d_bin (d_var 2 (d_var 11 (o_cat (rc := rInt) (by rw [hfl]; omega) (d_call N.noise (ok_noise N T) (da_one (d_var 1 (sw_1N (q := q) trivial (fun qn2 ns2 hns2 => (o_catO (rc := rInt) ?_ (fun pc hpc => ?_))))))))))))
        · have := hns2.len
          rw [List.length_append, hfl]
          omega
        · refine s_sub (.cons₂ _ (.cons _ (.cons _ (.cons₂ _ (.cons₂ _ .slnil))))) ?_
          refine s_next (pc, sx ++ frm (px, py, pz) ct ++ ns2, ts ++ [((px, py, pz), ct)]) ⟨?_, ?_, h3.step hok hns2.nm, ?_⟩ ⟨rfl, rfl, rfl, rfl, trivial⟩ rfl
          · have := hns2.len
            dsimp only
            rw [List.length_append, List.length_append, hfl]
            omega
          · intro n hn
            rcases List.mem_append.mp hn with hn | hn
            · rcases List.mem_append.mp hn with hn | hn
              · exact h2 n hn
              · exact frm_byte hok n hn
            · exact hns2.by_ n hn
          · dsimp only
            rw [List.length_append, h4]
            rfl
  obtain ⟨qs, sx, ts⟩ := d
  obtain ⟨h1, h2, h3, h4⟩ := hd
  dsimp only at h1 h2 h3 h4
  dsimp only
  rw [rgI_len] at h1
  have hsok : StrOk sx := ⟨by omega, h2⟩
  refine s_ifP (dt_cmp (d_then (x := rdS sx) (d_call N.read_stream (ok_read_stream N T) (da_one (d_gh sx (d_var 2 (sw_1 (q := qs) hsok (fun y hy => ⟨hy, rfl⟩)))))) (d_var 3 (o_neG (rc := rTold) (fun _ _ => ⟨⟨trivial, trivial, trivial⟩, trivial⟩) (fun _ _ => ⟨⟨trivial, trivial, trivial⟩, trivial⟩) ⟨rfl, rfl⟩)))) (fun hb => ?_) (fun hb => ?_)
  · exfalso
    rw [decide_eq_true h3.read] at hb
    exact Bool.noConfusion hb
  refine s_out ?_
  refine s_sub (.cons₂ _ (.cons _ (.cons₂ _ .slnil))) ?_
  refine s_for (js := [4]) (w_rng1 T.range (d_call N.draw (ok_draw N T) (da_cons (d_var 1 (da_one (d_int (sw_1 (q := q) (dr_ok (by walk_at "drw")) (fun n hn => ⟨by walk_at "drw", ?_⟩))))))))
  have hn3 : 0 ≤ n ∧ n < 3 := hn
  clear h3 h4
  refine ⟨List Int, fun i d => d.length ≤ 200 + i ∧ ∀ n ∈ d, Byte n, fun _ => [some ⟨rSeq rInt, x⟩, some ⟨rAdr, q⟩, some ⟨rAdr, qs⟩, none, none, none, none, none, none, none, none, none, none, none], fun d => [⟨qs, oLst rInt, d⟩, ⟨q, oSt, ()⟩], ⟨sx, ⟨by omega, h2⟩, ⟨rfl, rfl, rfl, trivial⟩, rfl⟩, fun g i xk d hx hd => (g_name 4 ?_), fun d hd => ?_⟩
  · obtain ⟨hi3, _⟩ := rgI_item hx
    obtain ⟨g1, g2⟩ := hd
    have z := szl
    refine s_set 12 (d_abs (fun c : Int => 0 ≤ c ∧ c < (d.length : Int) + 1) (fun a ha => ?_) (d_call N.draw (ok_draw N T) (da_cons (d_var 1 (da_one (d_bin (d_callB T.len bt_len (da_one (d_var 2 (c_lenG (d_int (o_add (sw_1 (q := q) (dr_ok (by walk_at "drw")) (fun n hn => ⟨hn, rfl⟩))))))))))))))
    refine s_set 13 (d_abs (fun c : Int => 0 ≤ c ∧ c < 3) (fun kd hkd => ?_) (d_call N.draw (ok_draw N T) (da_cons (d_var 1 (da_one (d_int (sw_1 (q := q) (dr_ok (by walk_at "drw")) (fun n hn => ⟨hn, rfl⟩))))))))
    refine s_ifP (dt_cmp (d_var 13 (d_int (o_eqI ⟨rfl, rfl⟩)))) (fun hb => ?_) (fun hb => ?_)
    · refine s_expr (d_ins (rc := rInt) (d_var 2 ⟨_, _, inferInstance, d_var 12 (d_abs Byte (fun c hc => ⟨_, _, inferInstance, by omega, by omega, ?_⟩) (d_call N.pick (ok_pick (ra := rInt) N T) (da_cons (d_var 1 (da_one (d_lst (ra := rInt) (da_all (d_int (da_all (d_int (da_all (d_int (da_all (d_call N.draw (ok_draw N T) (da_cons (d_var 1 (da_one (d_int (sw_1 (q := q) (dr_ok (by walk_at "drw")) (fun m hm => (da_all0 ⟨(by walk_at "sc"), (sw_1 (q := q) (by walk_at "sc") (fun c hc => ⟨?_, rfl⟩))⟩)))))))))))))))))))))⟩))
      · refine s_out (s_next (d.take a.toNat ++ [c] ++ d.drop a.toNat) ⟨?_, ?_⟩ ⟨rfl, rfl, rfl, trivial⟩ rfl)
        · rw [List.length_append, List.length_append, List.length_take, List.length_drop]
          show min a.toNat d.length + 1 + (d.length - a.toNat) ≤ 200 + (i + 1)
          omega
        · intro n hn
          rcases List.mem_append.mp hn with hn | hn
          · rcases List.mem_append.mp hn with hn | hn
            · exact g2 n (List.mem_of_mem_take hn)
            · rw [List.mem_singleton] at hn
              exact hn ▸ hc
          · exact g2 n (List.mem_of_mem_drop hn)
      · simp only [List.mem_cons, List.not_mem_nil, or_false] at hc
        dsimp only at hm
        rcases hc with e | e | e | e <;> subst e <;> exact ⟨by omega, by omega⟩
    · refine s_ifP (dt_bool (dp_andP (dt_cmp (d_var 12 (d_callB T.len bt_len (da_one (d_var 2 (c_lenG (o_lt ⟨rfl, rfl⟩))))))) (fun hb => (dp_and1 (dt_cmp (d_var 13 (d_int (o_eqI ⟨rfl, rfl⟩)))))))) (fun hb2 => ?_) (fun hb2 => ?_)
      · simp only [Bool.and_eq_true, decide_eq_true_eq] at hb2
        obtain ⟨y, _, _, hy⟩ := atI_lt (xs := d) ha.1 hb2.1
        refine s_expr (d_popI (rc := rInt) (d_var 2 ⟨_, _, inferInstance, d_var 12 ⟨_, _, y, inferInstance, by omega, hy, ?_⟩⟩))
        refine s_out (s_out (s_next (d.eraseIdx a.toNat) ⟨?_, fun n hn => g2 n (List.mem_of_mem_eraseIdx hn)⟩ ⟨rfl, rfl, rfl, trivial⟩ rfl))
        have := List.length_eraseIdx_le d a.toNat
        omega
      · refine s_ifP (dt_cmp (d_var 12 (d_callB T.len bt_len (da_one (d_var 2 (c_lenG (o_lt ⟨rfl, rfl⟩))))))) (fun hb3 => ?_) (fun hb3 => ?_)
        · have hb3' := of_decide_eq_true hb3
          refine s_setI (rc := rInt) (d_abs Byte (fun c hc => d_var 2 (d_var 12 ⟨_, _, inferInstance, by omega, ?_⟩)) (d_call N.pick (ok_pick (ra := rInt) N T) (da_cons (d_var 1 (da_one (d_lst (ra := rInt) (da_all (d_int (da_all (d_int (da_all (d_int (da_all (d_call N.draw (ok_draw N T) (da_cons (d_var 1 (da_one (d_int (sw_1 (q := q) (dr_ok (by walk_at "drw")) (fun m hm => (da_all0 ⟨(by walk_at "sc"), (sw_1 (q := q) (by walk_at "sc") (fun c hc => ⟨?_, rfl⟩))⟩)))))))))))))))))))))
          · refine s_out (s_out (s_out (s_next (d.set a.toNat c) ⟨?_, byte_set g2 hc⟩ ⟨rfl, rfl, rfl, trivial⟩ rfl)))
            rw [List.length_set]
            omega
          · simp only [List.mem_cons, List.not_mem_nil, or_false] at hc
            dsimp only at hm
            rcases hc with e | e | e | e <;> subst e <;> exact ⟨by omega, by omega⟩
        · exact s_out (s_out (s_out (s_next d ⟨by omega, g2⟩ ⟨rfl, rfl, rfl, trivial⟩ rfl)))
  · obtain ⟨g1, g2⟩ := hd
    rw [rgI_len] at g1
    have hsok2 : StrOk d := ⟨by omega, g2⟩
    refine s_set 5 (d_callT T.list bt_list (da_one (d_var 2 (c_list (rb := rInt) ?_))))
    refine s_set 6 (d_then (x := rdS d) (d_call N.read_stream (ok_read_stream N T) (da_one (d_gh d (d_var 2 (sw_1 (q := qs) hsok2 (fun y hy => ⟨hy, rfl⟩)))))) ?_)
    refine s_ret (d_then (d_andP (d_callB T.isi bt_isi (da_cons (d_var 6 (da_one (d_cls T.list bt_list (c_isi (b := true) (kit_ty isi_list_list) ⟨rfl, rfl⟩)))))) (fun hb => (d_andP (d_cmp (d_var 6 (d_then (x := rdS d) (d_call N.read (ok_read N T) (da_one (d_gh d (d_var 2 (sw_1 (q := qs) hsok2 (fun y hy => ⟨hy, rfl⟩)))))) (o_eqD (fun _ _ => ⟨⟨trivial, trivial, trivial⟩, trivial⟩) (fun _ _ => ⟨⟨trivial, trivial, trivial⟩, trivial⟩) ⟨rfl, rfl⟩)))) (fun hb => (d_one (d_cmp (d_var 2 (d_var 5 (o_eqG (rc := rInt) (fun _ _ => trivial) (fun _ _ => trivial) ⟨rfl, rfl⟩))))))))) (rt_drop (hk ⟨rfl, ?_⟩)))
    simp
end
end Law


set_option Elab.async false
set_option linter.all false
set_option maxRecDepth 100000
set_option maxHeartbeats 4100000
namespace Law
open PySem L2 Evl Sk
theorem all_mk {l : PySem.W.OpenLaw} {w : World} {K : PySem.W.Frag} {h : Heap} {mg : Str → Option Value} {fa : Addr} (X : K.In h) (G : h.Ns mainGlobals mg) (hfa : mg "law" = some (.ref fa))
    {f0 : Addr} {od0 an0 : Option Addr} {sl0 : Array (Option Value)} {oc0 kV0 dc0 pm0 cd0 ct0 : Value}
    (a0 : PySem.W.nsIn K mainGlobals "in_bytes" = some (some (.ref f0))) (l0 : K.lookup f0 = some ⟨oc0, od0, .func (PySem.W.fnOf "in_bytes" "in_bytes" (defArgs s_in_bytes) (defBody s_in_bytes) (defScope s_in_bytes) .none kV0 dc0 pm0 an0 cd0 ct0), sl0⟩) (c0 : PySem.W.codeIn K cd0 "in_bytes" = true) (k0 : PySem.W.keepIn K (.ref f0) = true)
    {f1 : Addr} {od1 an1 : Option Addr} {sl1 : Array (Option Value)} {oc1 kV1 dc1 pm1 cd1 ct1 : Value}
    (a1 : PySem.W.nsIn K mainGlobals "from_bytes_of" = some (some (.ref f1))) (l1 : K.lookup f1 = some ⟨oc1, od1, .func (PySem.W.fnOf "from_bytes_of" "from_bytes_of" (defArgs s_from_bytes_of) (defBody s_from_bytes_of) (defScope s_from_bytes_of) .none kV1 dc1 pm1 an1 cd1 ct1), sl1⟩) (c1 : PySem.W.codeIn K cd1 "from_bytes_of" = true) (k1 : PySem.W.keepIn K (.ref f1) = true)
    {f2 : Addr} {od2 an2 : Option Addr} {sl2 : Array (Option Value)} {oc2 kV2 dc2 pm2 cd2 ct2 : Value}
    (a2 : PySem.W.nsIn K mainGlobals "frame_of" = some (some (.ref f2))) (l2 : K.lookup f2 = some ⟨oc2, od2, .func (PySem.W.fnOf "frame_of" "frame_of" (defArgs s_frame_of) (defBody s_frame_of) (defScope s_frame_of) .none kV2 dc2 pm2 an2 cd2 ct2), sl2⟩) (c2 : PySem.W.codeIn K cd2 "frame_of" = true) (k2 : PySem.W.keepIn K (.ref f2) = true)
    {f3 : Addr} {od3 an3 : Option Addr} {sl3 : Array (Option Value)} {oc3 kV3 dc3 pm3 cd3 ct3 : Value}
    (a3 : PySem.W.nsIn K mainGlobals "plot_at" = some (some (.ref f3))) (l3 : K.lookup f3 = some ⟨oc3, od3, .func (PySem.W.fnOf "plot_at" "plot_at" (defArgs s_plot_at) (defBody s_plot_at) (defScope s_plot_at) .none kV3 dc3 pm3 an3 cd3 ct3), sl3⟩) (c3 : PySem.W.codeIn K cd3 "plot_at" = true) (k3 : PySem.W.keepIn K (.ref f3) = true)
    {f4 : Addr} {od4 an4 : Option Addr} {sl4 : Array (Option Value)} {oc4 kV4 dc4 pm4 cd4 ct4 : Value}
    (a4 : PySem.W.nsIn K mainGlobals "read_stream" = some (some (.ref f4))) (l4 : K.lookup f4 = some ⟨oc4, od4, .func (PySem.W.fnOf "read_stream" "read_stream" (defArgs s_read_stream) (defBody s_read_stream) (defScope s_read_stream) .none kV4 dc4 pm4 an4 cd4 ct4), sl4⟩) (c4 : PySem.W.codeIn K cd4 "read_stream" = true) (k4 : PySem.W.keepIn K (.ref f4) = true)
    {f5 : Addr} {od5 an5 : Option Addr} {sl5 : Array (Option Value)} {oc5 kV5 dc5 pm5 cd5 ct5 : Value}
    (a5 : PySem.W.nsIn K mainGlobals "_law_start" = some (some (.ref f5))) (l5 : K.lookup f5 = some ⟨oc5, od5, .func (PySem.W.fnOf "_law_start" "_law_start" (defArgs s_start) (defBody s_start) (defScope s_start) .none kV5 dc5 pm5 an5 cd5 ct5), sl5⟩) (c5 : PySem.W.codeIn K cd5 "_law_start" = true) (k5 : PySem.W.keepIn K (.ref f5) = true)
    {f6 : Addr} {od6 an6 : Option Addr} {sl6 : Array (Option Value)} {oc6 kV6 dc6 pm6 cd6 ct6 : Value}
    (a6 : PySem.W.nsIn K mainGlobals "_law_draw" = some (some (.ref f6))) (l6 : K.lookup f6 = some ⟨oc6, od6, .func (PySem.W.fnOf "_law_draw" "_law_draw" (defArgs s_draw) (defBody s_draw) (defScope s_draw) .none kV6 dc6 pm6 an6 cd6 ct6), sl6⟩) (c6 : PySem.W.codeIn K cd6 "_law_draw" = true) (k6 : PySem.W.keepIn K (.ref f6) = true)
    {f7 : Addr} {od7 an7 : Option Addr} {sl7 : Array (Option Value)} {oc7 kV7 dc7 pm7 cd7 ct7 : Value}
    (a7 : PySem.W.nsIn K mainGlobals "_law_pick" = some (some (.ref f7))) (l7 : K.lookup f7 = some ⟨oc7, od7, .func (PySem.W.fnOf "_law_pick" "_law_pick" (defArgs s_pick) (defBody s_pick) (defScope s_pick) .none kV7 dc7 pm7 an7 cd7 ct7), sl7⟩) (c7 : PySem.W.codeIn K cd7 "_law_pick" = true) (k7 : PySem.W.keepIn K (.ref f7) = true)
    {f8 : Addr} {od8 an8 : Option Addr} {sl8 : Array (Option Value)} {oc8 kV8 dc8 pm8 cd8 ct8 : Value}
    (a8 : PySem.W.nsIn K mainGlobals "_law_is_number" = some (some (.ref f8))) (l8 : K.lookup f8 = some ⟨oc8, od8, .func (PySem.W.fnOf "_law_is_number" "_law_is_number" (defArgs s_is_number) (defBody s_is_number) (defScope s_is_number) .none kV8 dc8 pm8 an8 cd8 ct8), sl8⟩) (c8 : PySem.W.codeIn K cd8 "_law_is_number" = true) (k8 : PySem.W.keepIn K (.ref f8) = true)
    {f9 : Addr} {od9 an9 : Option Addr} {sl9 : Array (Option Value)} {oc9 kV9 dc9 pm9 cd9 ct9 : Value}
    (a9 : PySem.W.nsIn K mainGlobals "_law_is" = some (some (.ref f9))) (l9 : K.lookup f9 = some ⟨oc9, od9, .func (PySem.W.fnOf "_law_is" "_law_is" (defArgs s_is) (defBody s_is) (defScope s_is) .none kV9 dc9 pm9 an9 cd9 ct9), sl9⟩) (c9 : PySem.W.codeIn K cd9 "_law_is" = true) (k9 : PySem.W.keepIn K (.ref f9) = true)
    {f10 : Addr} {od10 an10 : Option Addr} {sl10 : Array (Option Value)} {oc10 kV10 dc10 pm10 cd10 ct10 : Value}
    (a10 : PySem.W.nsIn K mainGlobals "_law_ranged" = some (some (.ref f10))) (l10 : K.lookup f10 = some ⟨oc10, od10, .func (PySem.W.fnOf "_law_ranged" "_law_ranged" (defArgs s_ranged) (defBody s_ranged) (defScope s_ranged) .none kV10 dc10 pm10 an10 cd10 ct10), sl10⟩) (c10 : PySem.W.codeIn K cd10 "_law_ranged" = true) (k10 : PySem.W.keepIn K (.ref f10) = true)
    {f11 : Addr} {od11 an11 : Option Addr} {sl11 : Array (Option Value)} {oc11 kV11 dc11 pm11 cd11 ct11 : Value}
    (a11 : PySem.W.nsIn K mainGlobals "_law_frame" = some (some (.ref f11))) (l11 : K.lookup f11 = some ⟨oc11, od11, .func (PySem.W.fnOf "_law_frame" "_law_frame" (defArgs s_frame) (defBody s_frame) (defScope s_frame) .none kV11 dc11 pm11 an11 cd11 ct11), sl11⟩) (c11 : PySem.W.codeIn K cd11 "_law_frame" = true) (k11 : PySem.W.keepIn K (.ref f11) = true)
    {f12 : Addr} {od12 an12 : Option Addr} {sl12 : Array (Option Value)} {oc12 kV12 dc12 pm12 cd12 ct12 : Value}
    (a12 : PySem.W.nsIn K mainGlobals "_law_read" = some (some (.ref f12))) (l12 : K.lookup f12 = some ⟨oc12, od12, .func (PySem.W.fnOf "_law_read" "_law_read" (defArgs s_read) (defBody s_read) (defScope s_read) .none kV12 dc12 pm12 an12 cd12 ct12), sl12⟩) (c12 : PySem.W.codeIn K cd12 "_law_read" = true) (k12 : PySem.W.keepIn K (.ref f12) = true)
    {f13 : Addr} {od13 an13 : Option Addr} {sl13 : Array (Option Value)} {oc13 kV13 dc13 pm13 cd13 ct13 : Value}
    (a13 : PySem.W.nsIn K mainGlobals "_law_noise" = some (some (.ref f13))) (l13 : K.lookup f13 = some ⟨oc13, od13, .func (PySem.W.fnOf "_law_noise" "_law_noise" (defArgs s_noise) (defBody s_noise) (defScope s_noise) .none kV13 dc13 pm13 an13 cd13 ct13), sl13⟩) (c13 : PySem.W.codeIn K cd13 "_law_noise" = true) (k13 : PySem.W.keepIn K (.ref f13) = true)
    {f14 : Addr} {od14 an14 : Option Addr} {sl14 : Array (Option Value)} {oc14 kV14 dc14 pm14 cd14 ct14 : Value}
    (a14 : PySem.W.nsIn K mainGlobals "law" = some (some (.ref f14))) (l14 : K.lookup f14 = some ⟨oc14, od14, .func (PySem.W.fnOf "law" "law" (defArgs s_law) (defBody s_law) (defScope s_law) .none kV14 dc14 pm14 an14 cd14 ct14), sl14⟩) (c14 : PySem.W.codeIn K cd14 "law" = true) (k14 : PySem.W.keepIn K (.ref f14) = true)
    (z0 : PySem.W.nsIn K mainGlobals "range" = some none)
    (z1 : PySem.W.nsIn K mainGlobals "list" = some none)
    (z2 : PySem.W.nsIn K mainGlobals "len" = some none)
    (z3 : PySem.W.nsIn K mainGlobals "int" = some none)
    (z4 : PySem.W.nsIn K mainGlobals "isinstance" = some none)
    (z5 : PySem.W.nsIn K mainGlobals "bool" = some none)
    (z6 : PySem.W.nsIn K mainGlobals "reversed" = some none)
    (z7 : PySem.W.nsIn K mainGlobals "sum" = some none)
    (z8 : PySem.W.nsIn K mainGlobals "abs" = some none)
    {ti9 : Tok} (z9 : PySem.W.nsIn K mainGlobals "MARK" = some (some (.int 170 ti9)))
    {ti10 : Tok} (z10 : PySem.W.nsIn K mainGlobals "SIZE" = some (some (.int 11 ti10)))
    {ti11 : Tok} (z11 : PySem.W.nsIn K mainGlobals "MODULUS" = some (some (.int 251 ti11)))
    {ti12 : Tok} (z12 : PySem.W.nsIn K mainGlobals "MIDDLE" = some (some (.int 8388608 ti12)))
    {ti13 : Tok} (z13 : PySem.W.nsIn K mainGlobals "MIDDLE_HEIGHT" = some (some (.int 32768 ti13)))
    : ∃ fd : FuncData, (∀ (s : Shared) (v : Value), BindsTo s fd ⟨[v], []⟩ [("_law_script", v)]) ∧ ∀ base : Heap, K.In base → base.Ns mainGlobals mg → FnOk l.prog w K mg base CX0 4 fa fd ["_law_script"] (sp_law K) := by
  have e := hfa.symm.trans (PySem.W.mg_of X G a14)
  cases e
  have F0 := fun_mk (st := s_in_bytes) l0 c0 k0
  have b0 := F0.binds (ps := ["number", "many"]) fun _ _ _ _ _ _ us hl => match us, hl with | [_, _], _ => rfl
  have F1 := fun_mk (st := s_from_bytes_of) l1 c1 k1
  have b1 := F1.binds (ps := ["numbers"]) fun _ _ _ _ _ _ us hl => match us, hl with | [_], _ => rfl
  have F2 := fun_mk (st := s_frame_of) l2 c2 k2
  have b2 := F2.binds (ps := ["plot", "count"]) fun _ _ _ _ _ _ us hl => match us, hl with | [_, _], _ => rfl
  have F3 := fun_mk (st := s_plot_at) l3 c3 k3
  have b3 := F3.binds (ps := ["numbers", "at"]) fun _ _ _ _ _ _ us hl => match us, hl with | [_, _], _ => rfl
  have F4 := fun_mk (st := s_read_stream) l4 c4 k4
  have b4 := F4.binds (ps := ["numbers"]) fun _ _ _ _ _ _ us hl => match us, hl with | [_], _ => rfl
  have F5 := fun_mk (st := s_start) l5 c5 k5
  have b5 := F5.binds (ps := ["_law_script"]) fun _ _ _ _ _ _ us hl => match us, hl with | [_], _ => rfl
  have F6 := fun_mk (st := s_draw) l6 c6 k6
  have b6 := F6.binds (ps := ["_law_state", "_law_bound"]) fun _ _ _ _ _ _ us hl => match us, hl with | [_, _], _ => rfl
  have F7 := fun_mk (st := s_pick) l7 c7 k7
  have b7 := F7.binds (ps := ["_law_state", "_law_things"]) fun _ _ _ _ _ _ us hl => match us, hl with | [_, _], _ => rfl
  have F8 := fun_mk (st := s_is_number) l8 c8 k8
  have b8 := F8.binds (ps := ["_law_thing"]) fun _ _ _ _ _ _ us hl => match us, hl with | [_], _ => rfl
  have F9 := fun_mk (st := s_is) l9 c9 k9
  have b9 := F9.binds (ps := ["_law_actual", "_law_due"]) fun _ _ _ _ _ _ us hl => match us, hl with | [_, _], _ => rfl
  have F10 := fun_mk (st := s_ranged) l10 c10 k10
  have b10 := F10.binds (ps := ["_law_state", "_law_low", "_law_high"]) fun _ _ _ _ _ _ us hl => match us, hl with | [_, _, _], _ => rfl
  have F11 := fun_mk (st := s_frame) l11 c11 k11
  have b11 := F11.binds (ps := ["_law_plot", "_law_count"]) fun _ _ _ _ _ _ us hl => match us, hl with | [_, _], _ => rfl
  have F12 := fun_mk (st := s_read) l12 c12 k12
  have b12 := F12.binds (ps := ["_law_numbers"]) fun _ _ _ _ _ _ us hl => match us, hl with | [_], _ => rfl
  have F13 := fun_mk (st := s_noise) l13 c13 k13
  have b13 := F13.binds (ps := ["_law_state"]) fun _ _ _ _ _ _ us hl => match us, hl with | [_], _ => rfl
  have F14 := fun_mk (st := s_law) l14 c14 k14
  have b14 := F14.binds (ps := ["_law_script"]) fun _ _ _ _ _ _ us hl => match us, hl with | [_], _ => rfl
  let N : Nm K mg := ⟨⟨_, _, F0, PySem.W.mg_of X G a0, b0⟩, ⟨_, _, F1, PySem.W.mg_of X G a1, b1⟩, ⟨_, _, F2, PySem.W.mg_of X G a2, b2⟩, ⟨_, _, F3, PySem.W.mg_of X G a3, b3⟩, ⟨_, _, F4, PySem.W.mg_of X G a4, b4⟩, ⟨_, _, F5, PySem.W.mg_of X G a5, b5⟩, ⟨_, _, F6, PySem.W.mg_of X G a6, b6⟩, ⟨_, _, F7, PySem.W.mg_of X G a7, b7⟩, ⟨_, _, F8, PySem.W.mg_of X G a8, b8⟩, ⟨_, _, F9, PySem.W.mg_of X G a9, b9⟩, ⟨_, _, F10, PySem.W.mg_of X G a10, b10⟩, ⟨_, _, F11, PySem.W.mg_of X G a11, b11⟩, ⟨_, _, F12, PySem.W.mg_of X G a12, b12⟩, ⟨_, _, F13, PySem.W.mg_of X G a13, b13⟩, ⟨_, _, F14, PySem.W.mg_of X G a14, b14⟩⟩
  have T : Bt mg := ⟨PySem.W.mg_none_of X G z0, PySem.W.mg_none_of X G z1, PySem.W.mg_none_of X G z2, PySem.W.mg_none_of X G z3, PySem.W.mg_none_of X G z4, PySem.W.mg_none_of X G z5, PySem.W.mg_none_of X G z6, PySem.W.mg_none_of X G z7, PySem.W.mg_none_of X G z8, ⟨_, PySem.W.mg_of X G z9⟩, ⟨_, PySem.W.mg_of X G z10⟩, ⟨_, PySem.W.mg_of X G z11⟩, ⟨_, PySem.W.mg_of X G z12⟩, ⟨_, PySem.W.mg_of X G z13⟩⟩
  exact ⟨PySem.W.fnOf "law" "law" (defArgs s_law) (defBody s_law) (defScope s_law) .none kV14 dc14 pm14 an14 cd14 ct14, fun s v => .of_eq rfl, fun base _ _ => ok_law N T⟩
theorem walk {l : PySem.W.OpenLaw} {q : Program} {loose : List Str} {XP : (Str → Option Value) → Heap → Prop} {YP : World → Heap → Prop} {d : DefRec} {K : Params → PySem.W.Frag} (hn : l.most = some 63) (hdf : d.params.defaults = [])
    (hY : ∀ (w : World) (h : Heap), YP w h → (K w.params).In h)
    (F : ∀ (w : World) (mg : Str → Option Value) (fa : Addr) (h : Heap), (K w.params).In h → h.Ns mainGlobals mg → mg d.name = some (.ref fa) →
      ∃ fd : FuncData, (∀ (s : Shared) (u : Value), BindsTo s fd ⟨[u], []⟩ [("_law_script", u)]) ∧ ∀ base : Heap, (K w.params).In base → base.Ns mainGlobals mg → FnOk l.prog w (K w.params) mg base CX0 4 fa fd ["_law_script"] (sp_law (K w.params))) :
    PySem.W.WalkO q loose XP YP l.row.toRowW d [] (fun f vs => PySem.call f vs) :=
  L2.walk_of (n := 63) (k := 4) (x := "_law_script") (CX := fun _ => CX0) (sp := fun w => sp_law (K w.params)) hn (by decide) hdf ⟨rfl, by decide, by decide⟩ hY F (fun w H a ns hl _ hS =>
    ⟨H, ns, Ex.refl H, fun P hP => absurd hP (by simp), ⟨.ref a, rfl, a, ns.map V.int, rfl, hS, All2.of_int ns⟩, hl, fun v hv => absurd hv (by simp), List.nodup_nil, fun v y O' G' H' _ _ _ r p => by
      have r' : v = .bl y := r
      rw [r', show y = true from p.2]⟩) fun _ _ _ _ _ z => z
end Law
open PySem PySem.W PyProof.Rows
set_option maxRecDepth 100000 in
set_option maxHeartbeats 0 in
theorem PySem.Challenge.cw_skyapart_k33_whole_stream_of_radars_holds : PySem.Challenge.rw_skyapart_k33_whole_stream_of_radars.Holds := by
  w_on; o_law; k_head; (case hw => w_witness2)
  k_fill
  refine Law.walk (l := PySem.Challenge.rw_skyapart_k33_whole_stream_of_radars) rfl rfl (fun w h Y => PySem.W.kIn_of Y) ?F
  case F =>
    intro w mg fa h KX G hmg
    refine' Law.all_mk KX G hmg ?a0 ?l0 ?c0 ?k0 ?a1 ?l1 ?c1 ?k1 ?a2 ?l2 ?c2 ?k2 ?a3 ?l3 ?c3 ?k3 ?a4 ?l4 ?c4 ?k4 ?a5 ?l5 ?c5 ?k5 ?a6 ?l6 ?c6 ?k6 ?a7 ?l7 ?c7 ?k7 ?a8 ?l8 ?c8 ?k8 ?a9 ?l9 ?c9 ?k9 ?a10 ?l10 ?c10 ?k10 ?a11 ?l11 ?c11 ?k11 ?a12 ?l12 ?c12 ?k12 ?a13 ?l13 ?c13 ?k13 ?a14 ?l14 ?c14 ?k14 ?z0 ?z1 ?z2 ?z3 ?z4 ?z5 ?z6 ?z7 ?z8 ?z9 ?z10 ?z11 ?z12 ?z13
    (case a0 => k_is)
    (case l0 => k_is)
    (case c0 => k_is)
    (case k0 => k_is)
    (case a1 => k_is)
    (case l1 => k_is)
    (case c1 => k_is)
    (case k1 => k_is)
    (case a2 => k_is)
    (case l2 => k_is)
    (case c2 => k_is)
    (case k2 => k_is)
    (case a3 => k_is)
    (case l3 => k_is)
    (case c3 => k_is)
    (case k3 => k_is)
    (case a4 => k_is)
    (case l4 => k_is)
    (case c4 => k_is)
    (case k4 => k_is)
    (case a5 => k_is)
    (case l5 => k_is)
    (case c5 => k_is)
    (case k5 => k_is)
    (case a6 => k_is)
    (case l6 => k_is)
    (case c6 => k_is)
    (case k6 => k_is)
    (case a7 => k_is)
    (case l7 => k_is)
    (case c7 => k_is)
    (case k7 => k_is)
    (case a8 => k_is)
    (case l8 => k_is)
    (case c8 => k_is)
    (case k8 => k_is)
    (case a9 => k_is)
    (case l9 => k_is)
    (case c9 => k_is)
    (case k9 => k_is)
    (case a10 => k_is)
    (case l10 => k_is)
    (case c10 => k_is)
    (case k10 => k_is)
    (case a11 => k_is)
    (case l11 => k_is)
    (case c11 => k_is)
    (case k11 => k_is)
    (case a12 => k_is)
    (case l12 => k_is)
    (case c12 => k_is)
    (case k12 => k_is)
    (case a13 => k_is)
    (case l13 => k_is)
    (case c13 => k_is)
    (case k13 => k_is)
    (case a14 => k_is)
    (case l14 => k_is)
    (case c14 => k_is)
    (case k14 => k_is)
    (case z0 => k_is)
    (case z1 => k_is)
    (case z2 => k_is)
    (case z3 => k_is)
    (case z4 => k_is)
    (case z5 => k_is)
    (case z6 => k_is)
    (case z7 => k_is)
    (case z8 => k_is)
    (case z9 => k_is)
    (case z10 => k_is)
    (case z11 => k_is)
    (case z12 => k_is)
    (case z13 => k_is)


