import PyProof.Rows.All
import Wide.All
import OpenK.AllK
import Wide.FinOn
import PyProof.EqAt
import PyProof.EqKinds
import PyProof.TupleCall
import HandS.ForMost
import HandS.ForExc
import HandS.Wide
import HandS.IsInst
import HandS.RevRange
import HandS.Conv
import HandS.AnyAll
import HandS.Evl
import HandS.Gcd
import HandS.Star
import HandS.More
import HandS.Zip
import HandS.Flt
import HandS.ExcInit
import HandS.ExcOwn
import HandS.ExcField
import HandS.TryOnly
import HandS.TryMany
import HandS.Nested
import HandS.FStr
import KE.KSuper
import KE.KExcSuper
import HandS.Iter
import KE.GoesEnum
import HandS.Exc
import HandS.Comp
import PyProof.GenQ
import HandS.GenList
import PyProof.ConsumeS
import PyProof.GenComp
import HandS.EndTab
import HandS.HeadWalk
import HandS.HeadHook4
import PyProof.WalkInts
import HandS.Deep
import PyProof.SumAny
import HandS.TupMul
import PyProof.FactsAll.list_4
import KE.SortData
import KE.DataMinMax
import HandS.SortKw
import PyProof.Rows.SumAny
import HandS.TupAny
import HandS.Text
import PySem.Challenge.RW_skyapart_k37_sequences_of_arrivals
set_option Elab.async false
set_option linter.all false
set_option maxRecDepth 100000
set_option maxHeartbeats 4100000
/-! Sk1: typed data over the hand layer: what a value stands for, worlds, the weakest readings. -/
namespace Sk
open PySem L2 Evl
abbrev Fg := PySem.W.Frag
theorem _root_.Evl.Ex.upd2 {H H' : Hp} {p : Addr} {o : HO} (e : Ex H H') : Ex (upd H p o) (upd H' p o) := fun a u h => by
  by_cases q : a = p
  · subst q
    rw [upd_same] at h ⊢
    exact h
  · rw [upd_ne q] at h ⊢
    exact e a u h
/-! ### what a value stands for -/
structure Rp (α : Type) where
  rep : Fg → Hp → V → α → Prop
  mono : ∀ {K : Fg} {G G' : Hp} {v : V} {x : α}, Ex G G' → rep K G v x → rep K G' v x
/-- of several values -/
structure RpF (α : Type) where
  rep : Fg → Hp → List V → α → Prop
  mono : ∀ {K : Fg} {G G' : Hp} {vs : List V} {x : α}, Ex G G' → rep K G vs x → rep K G' vs x
def rInt : Rp Int := ⟨fun _ _ v x => v = .int x, fun _ h => h⟩
def rBool : Rp Bool := ⟨fun _ _ v x => v = .bl x, fun _ h => h⟩
def rStr : Rp Str := ⟨fun _ _ v x => v = .str x, fun _ h => h⟩
def rNon : Rp Unit := ⟨fun _ _ v _ => v = .non, fun _ h => h⟩
def rAdr : Rp Addr := ⟨fun _ _ v x => v = .ref x, fun _ h => h⟩
def rAny : Rp Unit := ⟨fun _ _ _ _ => True, fun _ h => h⟩
def rTy : Rp String := ⟨fun _ _ v x => v = .ty x, fun _ h => h⟩
/-- a thing or None -/
def rOpt {α : Type} (r : Rp α) : Rp (Option α) := ⟨fun K G v x => match x with
  | none => v = .non
  | some y => v ≠ .non ∧ r.rep K G v y, fun {K G G' v x} e h => by
    cases x with
    | none => exact h
    | some y => exact ⟨h.1, r.mono e h.2⟩⟩
/-- items, one by one -/
def All2 {α : Type} (p : V → α → Prop) : List V → List α → Prop
  | [], [] => True
  | v :: vs, x :: xs => p v x ∧ All2 p vs xs
  | _, _ => False
theorem All2.mono {α : Type} {p q : V → α → Prop} (h : ∀ v x, p v x → q v x) : ∀ {vs : List V} {xs : List α}, All2 p vs xs → All2 q vs xs
  | [], [], _ => trivial
  | _ :: _, _ :: _, ⟨a, b⟩ => ⟨h _ _ a, All2.mono h b⟩
  | [], _ :: _, z => z
  | _ :: _, [], z => z
theorem All2.length {α : Type} {p : V → α → Prop} : ∀ {vs : List V} {xs : List α}, All2 p vs xs → vs.length = xs.length
  | [], [], _ => rfl
  | _ :: vs, _ :: xs, ⟨_, b⟩ => by rw [List.length_cons, List.length_cons, All2.length b]
  | [], _ :: _, z => z.elim
  | _ :: _, [], z => z.elim
theorem All2.get {α : Type} {p : V → α → Prop} : ∀ {vs : List V} {xs : List α} {i : Nat} {v : V}, All2 p vs xs → vs[i]? = some v → ∃ x, xs[i]? = some x ∧ p v x
  | [], _, _, _, _, e => by simp at e
  | _ :: _, [], _, _, z, _ => z.elim
  | w :: vs, x :: xs, 0, v, ⟨a, _⟩, e => by
    have e' : w = v := by simpa using e
    subst e'
    exact ⟨x, rfl, a⟩
  | w :: vs, x :: xs, i + 1, v, ⟨_, b⟩, e => All2.get (i := i) b (by simpa using e)
theorem All2.get' {α : Type} {p : V → α → Prop} : ∀ {vs : List V} {xs : List α} {i : Nat} {x : α}, All2 p vs xs → xs[i]? = some x → ∃ v, vs[i]? = some v ∧ p v x
  | _, [], _, _, _, e => by rw [List.getElem?_nil] at e; cases e
  | [], _ :: _, _, _, z, _ => z.elim
  | w :: vs, x :: xs, 0, y, ⟨a, _⟩, e => by
    have ey : x = y := by simpa using e
    subst ey
    exact ⟨w, rfl, a⟩
  | w :: vs, x :: xs, i + 1, y, ⟨_, b⟩, e => All2.get' (i := i) b (by simpa using e)
theorem All2.append {α : Type} {p : V → α → Prop} : ∀ {vs : List V} {xs : List α} {vs' : List V} {xs' : List α}, All2 p vs xs → All2 p vs' xs' → All2 p (vs ++ vs') (xs ++ xs')
  | [], [], _, _, _, h => h
  | _ :: _, _ :: _, _, _, ⟨a, b⟩, h => ⟨a, All2.append b h⟩
  | [], _ :: _, _, _, z, _ => z.elim
  | _ :: _, [], _, _, z, _ => z.elim
theorem All2.take {α : Type} {p : V → α → Prop} : ∀ {vs : List V} {xs : List α} (n : Nat), All2 p vs xs → All2 p (vs.take n) (xs.take n)
  | _, _, 0, _ => by simp [All2]
  | [], [], _ + 1, _ => trivial
  | _ :: _, _ :: _, n + 1, ⟨a, b⟩ => ⟨a, All2.take n b⟩
  | [], _ :: _, _ + 1, z => z.elim
  | _ :: _, [], _ + 1, z => z.elim
theorem All2.drop {α : Type} {p : V → α → Prop} : ∀ {vs : List V} {xs : List α} (n : Nat), All2 p vs xs → All2 p (vs.drop n) (xs.drop n)
  | _, _, 0, h => h
  | [], [], _ + 1, _ => trivial
  | _ :: _, _ :: _, n + 1, ⟨_, b⟩ => All2.drop n b
  | [], _ :: _, _ + 1, z => z.elim
  | _ :: _, [], _ + 1, z => z.elim
theorem All2.set {α : Type} {p : V → α → Prop} {v : V} {x : α} (hp : p v x) : ∀ {vs : List V} {xs : List α} (i : Nat), All2 p vs xs → All2 p (vs.set i v) (xs.set i x)
  | [], [], _, _ => trivial
  | _ :: _, _ :: _, 0, ⟨_, b⟩ => ⟨hp, b⟩
  | _ :: _, _ :: _, i + 1, ⟨a, b⟩ => ⟨a, All2.set hp i b⟩
  | [], _ :: _, _, z => z.elim
  | _ :: _, [], _, z => z.elim
theorem All2.map_int : ∀ {vs : List V} {xs : List Int}, All2 (fun v x => v = .int x) vs xs → vs = xs.map V.int
  | [], [], _ => rfl
  | _ :: _, _ :: _, ⟨a, b⟩ => by
    rw [a, All2.map_int b]
    rfl
  | [], _ :: _, z => z.elim
  | _ :: _, [], z => z.elim
theorem All2.of_int : ∀ (xs : List Int), All2 (fun v x => v = .int x) (xs.map V.int) xs
  | [] => trivial
  | _ :: xs => ⟨rfl, All2.of_int xs⟩
/-- a list of like things; a tuple of like things -/
def rLst {α : Type} (r : Rp α) : Rp (List α) := ⟨fun K G v xs => ∃ a vs, v = .ref a ∧ G a = some (.lst vs) ∧ All2 (r.rep K G) vs xs,
  fun e ⟨a, vs, h1, h2, h3⟩ => ⟨a, vs, h1, e _ _ h2, h3.mono fun _ _ z => r.mono e z⟩⟩
/-- a list that is read alone (the script, a module's) -/
def rSeq {α : Type} (r : Rp α) : Rp (List α) := ⟨fun K G v xs => ∃ a vs, v = .ref a ∧ SqL K G a vs ∧ All2 (r.rep K G) vs xs,
  fun e ⟨a, vs, h1, h2, h3⟩ => ⟨a, vs, h1, ex_l e h2, h3.mono fun _ _ z => r.mono e z⟩⟩
def rTpv {α : Type} (r : Rp α) : Rp (List α) := ⟨fun K G v xs => ∃ a vs, v = .ref a ∧ SqT K G a vs ∧ All2 (r.rep K G) vs xs,
  fun e ⟨a, vs, h1, h2, h3⟩ => ⟨a, vs, h1, ex_t e h2, h3.mono fun _ _ z => r.mono e z⟩⟩
def fNil : RpF Unit := ⟨fun _ _ vs _ => vs = [], fun _ h => h⟩
def fOne {α : Type} (r : Rp α) : RpF α := ⟨fun K G vs x => ∃ v, vs = [v] ∧ r.rep K G v x, fun e ⟨v, h1, h2⟩ => ⟨v, h1, r.mono e h2⟩⟩
def fCons {α β : Type} (r : Rp α) (f : RpF β) : RpF (α × β) := ⟨fun K G vs x => ∃ v ws, vs = v :: ws ∧ r.rep K G v x.1 ∧ f.rep K G ws x.2, fun e ⟨v, ws, h1, h2, h3⟩ => ⟨v, ws, h1, r.mono e h2, f.mono e h3⟩⟩
/-- a tuple of unlike things -/
def rTup {α : Type} (f : RpF α) : Rp α := ⟨fun K G v x => ∃ a vs, v = .ref a ∧ SqT K G a vs ∧ f.rep K G vs x, fun e ⟨a, vs, h1, h2, h3⟩ => ⟨a, vs, h1, ex_t e h2, f.mono e h3⟩⟩
/-! ### the frame's slots -/
structure Slot where
  {α : Type}
  r : Rp α
  x : α
abbrev Gm := List (Option Slot)
def EnvR (K : Fg) (G : Hp) : St → Gm → Prop
  | [], [] => True
  | _ :: σ, none :: Γ => EnvR K G σ Γ
  | v :: σ, some s :: Γ => (∃ u, v = some u ∧ s.r.rep K G u s.x) ∧ EnvR K G σ Γ
  | _, _ => False
theorem EnvR.mono {K : Fg} {G G' : Hp} (e : Ex G G') : ∀ {σ : St} {Γ : Gm}, EnvR K G σ Γ → EnvR K G' σ Γ
  | [], [], _ => trivial
  | _ :: σ, none :: Γ, h => EnvR.mono e (σ := σ) (Γ := Γ) h
  | _ :: _, some s :: _, ⟨⟨u, h1, h2⟩, h⟩ => ⟨⟨u, h1, s.r.mono e h2⟩, EnvR.mono e h⟩
  | [], _ :: _, h => h.elim
  | _ :: _, [], h => h.elim
theorem EnvR.get {K : Fg} {G : Hp} : ∀ {σ : St} {Γ : Gm} {i : Nat} {s : Slot}, EnvR K G σ Γ → Γ[i]? = some (some s) → ∃ u, σ[i]? = some (some u) ∧ s.r.rep K G u s.x
  | [], [], _, _, _, e => by simp at e
  | v :: σ, none :: Γ, 0, s, _, e => by simp at e
  | v :: σ, some s' :: Γ, 0, s, ⟨⟨u, h1, h2⟩, _⟩, e => by
    have e' : s' = s := by simpa using e
    subst e'
    exact ⟨u, by rw [h1]; rfl, h2⟩
  | v :: σ, none :: Γ, i + 1, s, h, e => EnvR.get (i := i) (show EnvR K G σ Γ from h) (by simpa using e)
  | v :: σ, some s' :: Γ, i + 1, s, ⟨_, h⟩, e => EnvR.get (i := i) h (by simpa using e)
  | [], _ :: _, _, _, h, _ => h.elim
  | _ :: _, [], _, _, h, _ => h.elim
theorem EnvR.set {K : Fg} {G : Hp} {s : Slot} {u : V} (hu : s.r.rep K G u s.x) : ∀ {σ : St} {Γ : Gm} (i : Nat), EnvR K G σ Γ → EnvR K G (σ.set i (some u)) (Γ.set i (some s))
  | [], [], _, _ => trivial
  | v :: σ, none :: Γ, 0, h => ⟨⟨u, rfl, hu⟩, h⟩
  | v :: σ, some s' :: Γ, 0, ⟨_, h⟩ => ⟨⟨u, rfl, hu⟩, h⟩
  | v :: σ, none :: Γ, i + 1, h => EnvR.set hu i (σ := σ) (Γ := Γ) h
  | v :: σ, some s' :: Γ, i + 1, ⟨a, h⟩ => ⟨a, EnvR.set hu i h⟩
  | [], _ :: _, _, h => h.elim
  | _ :: _, [], _, h => h.elim
/-- forgetting -/
def Wk : Gm → Gm → Prop
  | [], [] => True
  | _ :: Γ, none :: Γ' => Wk Γ Γ'
  | some s :: Γ, some s' :: Γ' => s = s' ∧ Wk Γ Γ'
  | _, _ => False
theorem Wk.env {K : Fg} {G : Hp} : ∀ {σ : St} {Γ Γ' : Gm}, Wk Γ Γ' → EnvR K G σ Γ → EnvR K G σ Γ'
  | [], [], [], _, _ => trivial
  | v :: σ, g :: Γ, none :: Γ', h, q => by
    cases g with
    | none => exact Wk.env (σ := σ) (Γ := Γ) (Γ' := Γ') h q
    | some s => exact Wk.env (σ := σ) (Γ := Γ) (Γ' := Γ') h q.2
  | v :: σ, some s :: Γ, some s' :: Γ', ⟨e, h⟩, q => by
    subst e
    exact ⟨q.1, Wk.env h q.2⟩
  | v :: σ, none :: Γ, some s' :: Γ', h, _ => h.elim
  | [], _ :: _, _, _, q => q.elim
  | _ :: _, [], _, _, q => q.elim
  | _, [], _ :: _, h, _ => h.elim
  | _, _ :: _, [], h, _ => h.elim
/-! ### objects that are one's own: they may change -/
structure Ow (α : Type) where
  rep : Fg → Hp → HO → α → Prop
  mono : ∀ {K : Fg} {G G' : Hp} {o : HO} {x : α}, Ex G G' → rep K G o x → rep K G' o x
structure Own where
  a : Addr
  {α : Type}
  r : Ow α
  x : α
def oLst {α : Type} (r : Rp α) : Ow (List α) := ⟨fun K G o xs => ∃ vs, o = .lst vs ∧ All2 (r.rep K G) vs xs, fun e ⟨vs, h1, h2⟩ => ⟨vs, h1, h2.mono fun _ _ z => r.mono e z⟩⟩
/-! ### worlds -/
def Tb (H : Hp) (P : Addr) : Prop := ∃ ps : Array Value, H P = some (.tbl ps) ∧ TriplesOk ps.toList
/-- from a world (G H) to a world (G' H'): what G tells stays, what H tells stays but for the tables T and the objects M -/
structure Stp (T M : List Addr) (G H G' H' : Hp) : Prop where
  sub : Ex G' H'
  g : Ex G G'
  h : ∀ a o, H a = some o → a ∉ T → a ∉ M → H' a = some o
  th : ∀ a, H a ≠ none → H' a ≠ none
  fr : ∀ a, G a = none → G' a ≠ none → H a = none
  tab : ∀ P ∈ T, Tb H P → Tb H' P
theorem Stp.refl {T M : List Addr} {G H : Hp} (s : Ex G H) : Stp T M G H G H :=
  ⟨s, Ex.refl _, fun _ _ h _ _ => h, fun _ h => h, fun _ h h' => (h' h).elim, fun _ _ h => h⟩
theorem Stp.trans {T M M' : List Addr} {G0 H0 G1 H1 G2 H2 : Hp} (a : Stp T M G0 H0 G1 H1) (b : Stp T M' G1 H1 G2 H2) (m : ∀ c ∈ M', c ∈ M ∨ H0 c = none) : Stp T M G0 H0 G2 H2 where
  sub := b.sub
  g := a.g.trans b.g
  h := fun c o q t n => b.h c o (a.h c o q t n) t fun z => by
    rcases m c z with y | y
    · exact n y
    · rw [y] at q
      cases q
  th := fun c q => b.th c (a.th c q)
  fr := fun c q q2 => by
    by_cases q1 : G1 c = none
    · have z := b.fr c q1 q2
      cases e : H0 c with
      | none => rfl
      | some o => exact (a.th c (by rw [e]; simp) z).elim
    · exact a.fr c q q1
  tab := fun P hP q => b.tab P hP (a.tab P hP q)
theorem Stp.weak {T M M' : List Addr} {G H G' H' : Hp} (a : Stp T M G H G' H') (m : ∀ c ∈ M, c ∈ M') : Stp T M' G H G' H' :=
  ⟨a.sub, a.g, fun c o q t n => a.h c o q t fun z => n (m c z), a.th, a.fr, a.tab⟩
/-- a new thing that will not change -/
theorem Stp.new {T M : List Addr} {G H : Hp} {p : Addr} {o : HO} (s : Ex G H) (hp : H p = none) : Stp T M G H (upd G p o) (upd H p o) where
  sub := s.upd2
  g := Ex.new (by cases e : G p with
    | none => rfl
    | some q => rw [s p q e] at hp; cases hp)
  h := fun a u e _ _ => by rw [upd_ne (ne_of_none e hp)]; exact e
  th := fun a e => by
    by_cases q : a = p
    · rw [q, upd_same]; simp
    · rw [upd_ne q]; exact e
  fr := fun a e e2 => by
    by_cases q : a = p
    · rw [q]; exact hp
    · rw [upd_ne q] at e2; exact (e2 e).elim
  tab := fun P _ ⟨ps, h1, h2⟩ => ⟨ps, by rw [upd_ne (ne_of_none h1 hp)]; exact h1, h2⟩
/-- a new object of one's own -/
theorem Stp.newOwn {T M : List Addr} {G H : Hp} {p : Addr} {o : HO} (s : Ex G H) (hp : H p = none) : Stp T M G H G (upd H p o) where
  sub := s.trans (Ex.new hp)
  g := Ex.refl _
  h := fun a u e _ _ => by rw [upd_ne (ne_of_none e hp)]; exact e
  th := fun a e => by
    by_cases q : a = p
    · rw [q, upd_same]; simp
    · rw [upd_ne q]; exact e
  fr := fun a e e2 => (e2 e).elim
  tab := fun P _ ⟨ps, h1, h2⟩ => ⟨ps, by rw [upd_ne (ne_of_none h1 hp)]; exact h1, h2⟩
/-- an own object changes -/
theorem Stp.mut {T : List Addr} {G H : Hp} {p : Addr} {o : HO} (s : Ex G H) (hp : G p = none) (ht : p ∉ T) : Stp T [p] G H G (upd H p o) where
  sub := s.mut hp
  g := Ex.refl _
  h := fun a u e _ n => by rw [upd_ne (by intro z; exact n (by simp [z]))]; exact e
  th := fun a e => by
    by_cases q : a = p
    · rw [q, upd_same]; simp
    · rw [upd_ne q]; exact e
  fr := fun a e e2 => (e2 e).elim
  tab := fun P hP ⟨ps, h1, h2⟩ => ⟨ps, by rw [upd_ne (by intro z; exact ht (z ▸ hP))]; exact h1, h2⟩
/-- where a def began: its tables, the objects it was handed to change, the world at its entry; heaps that stay told -/
structure Bs where
  T : List Addr
  M : List Addr
  G0 : Hp
  H0 : Hp
  bs : List Hp
structure OwnOk (K : Fg) (B : Bs) (G H : Hp) (w : Own) : Prop where
  ob : ∃ o, H w.a = some o ∧ w.r.rep K G o w.x
  g : G w.a = none
  t : w.a ∉ B.T
  m : B.H0 w.a = none ∨ w.a ∈ B.M
structure Ws (K : Fg) (B : Bs) (Γ : Gm) (O : List Own) (σ : St) (G H : Hp) : Prop where
  st : Stp B.T B.M B.G0 B.H0 G H
  tab : ∀ P ∈ B.T, Tb H P ∧ G P = none
  bs : ∀ g ∈ B.bs, Ex g G
  env : EnvR K G σ Γ
  own : ∀ w ∈ O, OwnOk K B G H w
  nd : (O.map (·.a)).Nodup
  mh : ∀ m ∈ B.M, B.H0 m ≠ none
section
variable {K : Fg} {B : Bs} {Γ Γ' : Gm} {O O' : List Own} {σ : St} {G H G' H' : Hp}
theorem Ws.sub (W : Ws K B Γ O σ G H) : Ex G H := W.st.sub
/-- all that changes is new -/
theorem Ws.step (W : Ws K B Γ O σ G H) (s : Stp B.T [] G H G' H') : Ws K B Γ O σ G' H' where
  st := W.st.trans s fun _ z => absurd z (by simp)
  tab := fun P hP => ⟨s.tab P hP (W.tab P hP).1, by
    cases e : G' P with
    | none => rfl
    | some o =>
      have z := s.fr P (W.tab P hP).2 (by rw [e]; simp)
      obtain ⟨⟨ps, h1, _⟩, _⟩ := W.tab P hP
      rw [h1] at z
      cases z⟩
  bs := fun g hg => (W.bs g hg).trans s.g
  env := W.env.mono s.g
  own := fun w hw => by
    obtain ⟨⟨o, h1, h2⟩, h3, h4, h5⟩ := W.own w hw
    refine ⟨⟨o, s.h _ _ h1 h4 (by simp), w.r.mono s.g h2⟩, ?_, h4, h5⟩
    cases e : G' w.a with
    | none => rfl
    | some u =>
      have z := s.fr _ h3 (by rw [e]; simp)
      rw [h1] at z
      cases z
  nd := W.nd
  mh := W.mh
theorem Ws.wk (W : Ws K B Γ O σ G H) (h : Wk Γ Γ') : Ws K B Γ' O σ G H := ⟨W.st, W.tab, W.bs, h.env W.env, W.own, W.nd, W.mh⟩
theorem Ws.set {s : Slot} {u : V} (W : Ws K B Γ O σ G H) (i : Nat) (h : s.r.rep K G u s.x) : Ws K B (Γ.set i (some s)) O (σ.set i (some u)) G H :=
  ⟨W.st, W.tab, W.bs, W.env.set h i, W.own, W.nd, W.mh⟩
/-- one more heap that stays told -/
theorem Ws.base (W : Ws K B Γ O σ G H) : Ws K { B with bs := G :: B.bs } Γ O σ G H := ⟨W.st, W.tab, fun g hg => by
  rcases List.mem_cons.mp hg with z | z
  · rw [z]; exact Ex.refl _
  · exact W.bs g z, W.env, fun w hw => let ⟨a, b, c, d⟩ := W.own w hw; ⟨a, b, c, d⟩, W.nd, W.mh⟩
theorem Ws.unbase {g : Hp} (W : Ws K { B with bs := g :: B.bs } Γ O σ G H) : Ws K B Γ O σ G H := ⟨W.st, W.tab, fun g' hg => W.bs g' (List.mem_cons_of_mem _ hg), W.env, fun w hw => let ⟨a, b, c, d⟩ := W.own w hw; ⟨a, b, c, d⟩, W.nd, W.mh⟩
theorem Ws.free (W : Ws K B Γ O σ G H) {p : Addr} (hp : H p = none) : B.H0 p = none := by
  cases e : B.H0 p with
  | none => rfl
  | some o => exact (W.st.th p (by rw [e]; simp) hp).elim
theorem Ws.notM (W : Ws K B Γ O σ G H) {p : Addr} (hp : H p = none) : p ∉ B.M := fun z => W.mh p z (W.free hp)
theorem Ws.freeG (W : Ws K B Γ O σ G H) {p : Addr} (hp : H p = none) : G p = none := by
  cases e : G p with
  | none => rfl
  | some o => rw [W.sub p o e] at hp; cases hp
theorem Ws.notT (W : Ws K B Γ O σ G H) {p : Addr} (hp : H p = none) : p ∉ B.T := fun z => by
  obtain ⟨⟨ps, h1, _⟩, _⟩ := W.tab p z
  rw [h1] at hp
  cases hp
/-- a new own object -/
theorem Ws.newOwn {α : Type} {p : Addr} {o : HO} {r : Ow α} {x : α} (W : Ws K B Γ O σ G H) (hp : H p = none) (h : r.rep K G o x) : Ws K B Γ (⟨p, r, x⟩ :: O) σ G (upd H p o) := by
  have s : Stp B.T [] G H G (upd H p o) := Stp.newOwn W.sub hp
  have W' := W.step s
  refine ⟨W'.st, W'.tab, W'.bs, W'.env, fun w hw => ?_, ?_, W.mh⟩
  · rcases List.mem_cons.mp hw with z | z
    · subst z
      exact ⟨⟨o, upd_same, h⟩, W.freeG hp, W.notT hp, .inl (W.free hp)⟩
    · exact W'.own w z
  · show (p :: O.map (·.a)).Nodup
    refine List.nodup_cons.mpr ⟨fun z => ?_, W.nd⟩
    obtain ⟨w, hw, e⟩ := List.mem_map.mp z
    obtain ⟨⟨u, h1, _⟩, _⟩ := W.own w hw
    rw [e, hp] at h1
    cases h1
/-- an own object at the head changes -/
theorem Ws.mutHd {α β : Type} {p : Addr} {o : HO} {r : Ow α} {x : α} {r' : Ow β} {x' : β} (W : Ws K B Γ (⟨p, r, x⟩ :: O) σ G H) (h : r'.rep K G o x') : Ws K B Γ (⟨p, r', x'⟩ :: O) σ G (upd H p o) := by
  obtain ⟨_, h3, h4, h5⟩ := W.own _ List.mem_cons_self
  have s : Stp B.T [p] G H G (upd H p o) := Stp.mut W.sub h3 h4
  refine ⟨W.st.trans s fun c hc => ?_, fun P hP => ⟨s.tab P hP (W.tab P hP).1, (W.tab P hP).2⟩, W.bs, W.env, fun w hw => ?_, W.nd, W.mh⟩
  · have e : c = p := by simpa using hc
    subst e
    exact h5.symm
  · have nd : p ∉ O.map (·.a) := (List.nodup_cons.mp W.nd).1
    rcases List.mem_cons.mp hw with z | z
    · subst z
      exact ⟨⟨o, upd_same, h⟩, h3, h4, h5⟩
    · obtain ⟨⟨u, g1, g2⟩, g3, g4, g5⟩ := W.own w (List.mem_cons_of_mem _ z)
      exact ⟨⟨u, by rw [upd_ne (fun e => nd (List.mem_map.mpr ⟨w, z, e⟩))]; exact g1, g2⟩, g3, g4, g5⟩
/-- the own objects in another order, some dropped -/
theorem Ws.perm (W : Ws K B Γ O σ G H) (hs : ∀ w ∈ O', w ∈ O) (hn : (O.map (·.a)).Nodup → (O'.map (·.a)).Nodup) : Ws K B Γ O' σ G H := ⟨W.st, W.tab, W.bs, W.env, fun w hw => W.own w (hs w hw), hn W.nd, W.mh⟩
end
end Sk
set_option Elab.async false
set_option linter.all false
set_option maxRecDepth 100000
set_option maxHeartbeats 4100000
/-! Sk2: the weakest readings of the hand layer's judgements, and rules over typed data. -/
namespace Sk
open PySem L2 Evl
/-! ### the weakest readings -/
section
variable {ι : Type} (F : ι → Cx)
def WE (e : Expr) : TE := fun σ H Q => ∃ t, (∀ i, PE (F i) e t) ∧ t σ H Q
def WT (e : Expr) : TT := fun σ H Q => ∃ t, (∀ i, PT (F i) e t) ∧ t σ H Q
def WP (e : Expr) : TT := fun σ H Q => ∃ t, (∀ i, PW (F i) e t) ∧ t σ H Q
def WTs (es : List Expr) : TT := fun σ H Q => ∃ t, (∀ i, PTs (F i) es t) ∧ t σ H Q
def WA (es : List Expr) : TA := fun σ H Q => ∃ t, (∀ i, PA (F i) es t) ∧ t σ H Q
def WG (e : Expr) : TG := fun v σ H Q => ∃ t, (∀ i, PG (F i) e t) ∧ t v σ H Q
def WGs (es : List Expr) : TGs := fun vs σ H Q => ∃ t, (∀ i, PGs (F i) es t) ∧ t vs σ H Q
def WI (tg e : Expr) : TI := fun σ H R => ∃ t, (∀ i, PI (F i) tg e t) ∧ t σ H R
def wOp (f : Value → Value → Sem Value) : R2 := fun x y H Q => ∃ r, (∀ i, OpR (F i) f r) ∧ r x y H Q
def wUn (f : Value → Sem Value) : V → Hp → VK → Prop := fun x H Q => ∃ r, (∀ i, UnR (F i) f r) ∧ r x H Q
def wIx : R2 := fun x y H Q => ∃ r, (∀ i, IxR (F i) r) ∧ r x y H Q
def wCl (f : Value) : List V → Hp → VK → Prop := fun vs H Q => ∃ r, (∀ i, CallR (F i) f r) ∧ r vs H Q
variable {F}
theorem WE.pe {e : Expr} (i : ι) : PE (F i) e (WE F e) := ⟨fun pins s σ H Q I ⟨_, p, q⟩ => (p i).run pins s σ H Q I q⟩
theorem WT.pt {e : Expr} (i : ι) : PT (F i) e (WT F e) := ⟨fun pins s σ H Q I ⟨_, p, q⟩ => (p i).run pins s σ H Q I q⟩
theorem WP.pw {e : Expr} (i : ι) : PW (F i) e (WP F e) := ⟨fun wh pins s σ H Q I ⟨_, p, q⟩ => (p i).run wh pins s σ H Q I q⟩
theorem WTs.pts {e : List Expr} (i : ι) : PTs (F i) e (WTs F e) := ⟨fun pins s σ H Q I ⟨_, p, q⟩ => (p i).run pins s σ H Q I q⟩
theorem WA.pa {es : List Expr} (i : ι) : PA (F i) es (WA F es) := ⟨fun pos pins s σ H Q I ⟨_, p, q⟩ => (p i).run pos pins s σ H Q I q⟩
theorem WG.pg {e : Expr} (i : ι) : PG (F i) e (WG F e) := ⟨fun pins s σ H v u Q I r ⟨_, p, q⟩ => (p i).run pins s σ H v u Q I r q⟩
theorem WGs.pgs {es : List Expr} (i : ι) : PGs (F i) es (WGs F es) := ⟨fun pins s σ H v u Q I r ⟨_, p, q⟩ => (p i).run pins s σ H v u Q I r q⟩
theorem WI.pi {tg e : Expr} (i : ι) : PI (F i) tg e (WI F tg e) := ⟨fun pins s σ H R I ⟨_, p, q⟩ => (p i).run pins s σ H R I q⟩
theorem wOp.op {f : Value → Value → Sem Value} (i : ι) : OpR (F i) f (wOp F f) := fun pins s σ H x y v u Q I rx ry ⟨_, p, q⟩ => p i pins s σ H x y v u Q I rx ry q
theorem wUn.un {f : Value → Sem Value} (i : ι) : UnR (F i) f (wUn F f) := fun pins s σ H x v Q I rx ⟨_, p, q⟩ => p i pins s σ H x v Q I rx q
theorem wIx.ix (i : ι) : IxR (F i) (wIx F) := fun val sl pins s σ H x y v u Q I rx ry ⟨_, p, q⟩ hs => p i val sl pins s σ H x y v u Q I rx ry q hs
theorem wCl.cl {f : Value} (i : ι) : CallR (F i) f (wCl F f) := fun pins s σ H xs us Q I r ⟨_, p, q⟩ => p i pins s σ H xs us Q I r q
end
section
variable (X : Cx)
def WSs (st : List Stmt) : TS := fun D σ H => ∃ t, PSs X st t ∧ t D σ H
variable {X}
theorem WSs.pss {st : List Stmt} : PSs X st (WSs X st) := ⟨fun pins s σ H D I ⟨_, p, q⟩ => p.run pins s σ H D I q⟩
theorem WSs.cons {st : Stmt} {rest : List Stmt} {D : Ends} {σ : St} {H : Hp} {t : TS} (p : PS X st t) (h : t { D with nx := WSs X rest D } σ H) : WSs X (st :: rest) D σ H := ⟨_, pss_cons p WSs.pss, h⟩
theorem WSs.nil {D : Ends} {σ : St} {H : Hp} (h : D.nx σ H) : WSs X [] D σ H := ⟨_, pss_nil, h⟩
end
/-! ### rules over typed data -/
section
variable {ι : Type} (F : ι → Cx) (K : Fg) (B : Bs) (Γ : Gm) (O : List Own)
/-- an expression gives x, as r says; behind it the own objects are O' -/
def DW (e : Expr) {α : Type} (r : Rp α) (Φ : α → List Own → Prop) : Prop :=
  ∀ σ G H, Ws K B Γ O σ G H → ∀ Q : VK, (∀ x O' v G' H', Φ x O' → Ws K B Γ O' σ G' H' → Ex G G' → r.rep K G' v x → Q v H') → WE F e σ H Q
def DT (e : Expr) (Φ : Bool → List Own → Prop) : Prop :=
  ∀ σ G H, Ws K B Γ O σ G H → ∀ Q : Bool → Hp → Prop, (∀ b O' G' H', Φ b O' → Ws K B Γ O' σ G' H' → Ex G G' → Q b H') → WT F e σ H Q
def DP (e : Expr) (Φ : Bool → List Own → Prop) : Prop :=
  ∀ σ G H, Ws K B Γ O σ G H → ∀ Q : Bool → Hp → Prop, (∀ b O' G' H', Φ b O' → Ws K B Γ O' σ G' H' → Ex G G' → Q b H') → WP F e σ H Q
def DTs (es : List Expr) (Φ : Bool → List Own → Prop) : Prop :=
  ∀ σ G H, Ws K B Γ O σ G H → ∀ Q : Bool → Hp → Prop, (∀ b O' G' H', Φ b O' → Ws K B Γ O' σ G' H' → Ex G G' → Q b H') → WTs F es σ H Q
def DA (es : List Expr) {α : Type} (r : RpF α) (Φ : α → List Own → Prop) : Prop :=
  ∀ σ G H, Ws K B Γ O σ G H → ∀ Q : List V → Hp → Prop, (∀ x O' v G' H', Φ x O' → Ws K B Γ O' σ G' H' → Ex G G' → r.rep K G' v x → Q v H') → WA F es σ H Q
/-- a two-place operation; a one-place one; a call of a built-in -/
def OW (f : Value → Value → Sem Value) {α β γ : Type} (ra : Rp α) (rb : Rp β) (x : α) (y : β) (rc : Rp γ) (Φ : γ → List Own → Prop) : Prop :=
  ∀ σ G H v w, Ws K B Γ O σ G H → ra.rep K G v x → rb.rep K G w y → ∀ Q : VK, (∀ z O' u G' H', Φ z O' → Ws K B Γ O' σ G' H' → Ex G G' → rc.rep K G' u z → Q u H') → wOp F f v w H Q
def UW (f : Value → Sem Value) {α γ : Type} (ra : Rp α) (x : α) (rc : Rp γ) (Φ : γ → List Own → Prop) : Prop :=
  ∀ σ G H v, Ws K B Γ O σ G H → ra.rep K G v x → ∀ Q : VK, (∀ z O' u G' H', Φ z O' → Ws K B Γ O' σ G' H' → Ex G G' → rc.rep K G' u z → Q u H') → wUn F f v H Q
def IW {α β γ : Type} (ra : Rp α) (rb : Rp β) (x : α) (y : β) (rc : Rp γ) (Φ : γ → List Own → Prop) : Prop :=
  ∀ σ G H v w, Ws K B Γ O σ G H → ra.rep K G v x → rb.rep K G w y → ∀ Q : VK, (∀ z O' u G' H', Φ z O' → Ws K B Γ O' σ G' H' → Ex G G' → rc.rep K G' u z → Q u H') → wIx F v w H Q
def CW (f : Value) {α γ : Type} (ra : RpF α) (x : α) (rc : Rp γ) (Φ : γ → List Own → Prop) : Prop :=
  ∀ σ G H vs, Ws K B Γ O σ G H → ra.rep K G vs x → ∀ Q : VK, (∀ z O' u G' H', Φ z O' → Ws K B Γ O' σ G' H' → Ex G G' → rc.rep K G' u z → Q u H') → wCl F f vs H Q
/-- a promise is asked -/
def SW (sp : Sp) (dvs : List V) {α γ : Type} (ra : RpF α) (x : α) (rc : Rp γ) (Φ : γ → List Own → Prop) : Prop :=
  ∀ σ G H vs, Ws K B Γ O σ G H → ra.rep K G vs x → ∀ Q : VK, (∀ z O' u G' H', Φ z O' → Ws K B Γ O' σ G' H' → Ex G G' → rc.rep K G' u z → Q u H') → sp (vs ++ dvs) H Q E0
end
section
variable {ι : Type} {F : ι → Cx} {K : Fg} {B : Bs} {Γ : Gm} {O : List Own} {α β γ : Type} {ra : Rp α} {rb : Rp β} {rc : Rp γ} {a b c e : Expr} {es : List Expr} {pos p : Pos} {n : Str}
/-! names, constants -/
class At (Γ : Gm) (i : Nat) {α : outParam Type} (r : outParam (Rp α)) (x : outParam α) : Prop where
  get : Γ[i]? = some (some ⟨r, x⟩)
instance at0 {Γ : Gm} {α : Type} {r : Rp α} {x : α} : At (some ⟨r, x⟩ :: Γ) 0 r x := ⟨rfl⟩
instance atS {Γ : Gm} {g : Option Slot} {i : Nat} {α : Type} {r : Rp α} {x : α} [h : At Γ i r x] : At (g :: Γ) (i + 1) r x := ⟨h.get⟩
theorem d_var (i : Nat) {x : α} {Φ : α → List Own → Prop} [hA : At Γ i ra x] (k : Φ x O) (hN : ∀ j, (F j).N[i]? = some n := by intro _; rfl)
    (hv : ∀ j, Vis (F j).env.scope n := by intro _; first | exact Or.inl rfl | exact Or.inr (Or.inl rfl) | exact Or.inr (Or.inr rfl)) (hd : (n == ("__debug__" : Str)) = false := by decide)
    (hcd : (n == ("__classdict__" : Str)) = false := by decide) : DW F K B Γ O (.Name n pos) ra Φ := by
  intro σ G H W Q q
  obtain ⟨u, h1, h2⟩ := W.env.get hA.get
  exact ⟨_, fun j => pe_var (hN j) (hv j) hd hcd, u, h1, q x O u G H k W (Ex.refl _) h2⟩
theorem d_int {j : Int} {i : Nat} {Φ : Int → List Own → Prop} (k : Φ j O) : DW F K B Γ O (.Constant (.int j) i pos) rInt Φ :=
  fun σ G H W Q q => ⟨_, fun _ => pe_int, q j O _ G H k W (Ex.refl _) rfl⟩
theorem d_bl {j : Bool} {i : Nat} {Φ : Bool → List Own → Prop} (k : Φ j O) : DW F K B Γ O (.Constant (.bool j) i pos) rBool Φ :=
  fun σ G H W Q q => ⟨_, fun _ => pe_bl, q j O _ G H k W (Ex.refl _) rfl⟩
theorem d_str {j : Str} {i : Nat} {Φ : Str → List Own → Prop} (k : Φ j O) : DW F K B Γ O (.Constant (.str j) i pos) rStr Φ :=
  fun σ G H W Q q => ⟨_, fun _ => pe_str, q j O _ G H k W (Ex.refl _) rfl⟩
theorem d_non {i : Nat} {Φ : Unit → List Own → Prop} (k : Φ () O) : DW F K B Γ O (.Constant .none i pos) rNon Φ :=
  fun σ G H W Q q => ⟨_, fun _ => pe_non, q () O _ G H k W (Ex.refl _) rfl⟩
/-- None where a thing or None is wanted -/
theorem d_none {i : Nat} {Φ : Option α → List Own → Prop} (k : Φ none O) : DW F K B Γ O (.Constant .none i pos) (rOpt ra) Φ :=
  fun σ G H W Q q => ⟨_, fun _ => pe_non, q none O _ G H k W (Ex.refl _) rfl⟩
/-- a module's constant; a built-in class as a value -/
theorem d_globF {v : V} {u : Value} {x : α} {Φ : α → List Own → Prop} (hm : ∀ j, (F j).mg n = some u) (r : RelV v u) (hx : ∀ G, ra.rep K G v x) (k : Φ x O) (hg : ∀ j, Gl (F j) n := by intro _; rfl) (hd : (n == ("__debug__" : Str)) = false := by decide) :
    DW F K B Γ O (.Name n pos) ra Φ :=
  fun σ G H W Q q => ⟨_, fun j => pe_glob (hg j) (hm j) r hd, q x O _ G H k W (Ex.refl _) (hx G)⟩
theorem d_bltnF {v : V} {u : Value} {x : α} {Φ : α → List Own → Prop} (hm : ∀ j, (F j).mg n = none) (hv : bootBuiltins n = some u) (r : RelV v u) (hx : ∀ G, ra.rep K G v x) (k : Φ x O) (hg : ∀ j, Gl (F j) n := by intro _; rfl)
    (hn : n ≠ "__name__" := by decide) (hd : (n == ("__debug__" : Str)) = false := by decide) : DW F K B Γ O (.Name n pos) ra Φ :=
  fun σ G H W Q q => ⟨_, fun j => pe_bltn (hg j) (hm j) hv r hn hd, q x O _ G H k W (Ex.refl _) (hx G)⟩
theorem d_mono {Φ Ψ : α → List Own → Prop} (h : DW F K B Γ O e ra Φ) (k : ∀ x O', Φ x O' → Ψ x O') : DW F K B Γ O e ra Ψ := fun σ G H W Q q => h σ G H W Q fun x O' v G' H' p => q x O' v G' H' (k x O' p)
theorem dt_mono {Φ Ψ : Bool → List Own → Prop} (h : DT F K B Γ O e Φ) (k : ∀ x O', Φ x O' → Ψ x O') : DT F K B Γ O e Ψ := fun σ G H W Q q => h σ G H W Q fun x O' G' H' p => q x O' G' H' (k x O' p)
/-! operators -/
theorem d_bin {op : Operator} {Φ : γ → List Own → Prop} (h : DW F K B Γ O a ra fun x O1 => DW F K B Γ O1 b rb fun y O2 => OW F K B Γ O2 (binaryOp op) ra rb x y rc Φ) : DW F K B Γ O (.BinOp a op b pos) rc Φ := by
  intro σ G H W Q q
  refine ⟨_, fun i => pe_op (wOp.op i) (WE.pe i) (WE.pe i), ?_⟩
  refine h σ G H W _ fun x O1 v G1 H1 h1 W1 e1 r1 => ?_
  refine h1 σ G1 H1 W1 _ fun y O2 w G2 H2 h2 W2 e2 r2 => ?_
  exact h2 σ G2 H2 v w W2 (ra.mono e2 r1) r2 Q fun z O' u G' H' k W' e' r' => q z O' u G' H' k W' ((e1.trans e2).trans e') r'
theorem d_un {op : UnaryOp} {Φ : γ → List Own → Prop} (h : DW F K B Γ O a ra fun x O1 => UW F K B Γ O1 (unaryOp op) ra x rc Φ) : DW F K B Γ O (.UnaryOp op a pos) rc Φ := by
  intro σ G H W Q q
  refine ⟨_, fun i => pe_un (wUn.un i) (WE.pe i), ?_⟩
  refine h σ G H W _ fun x O1 v G1 H1 h1 W1 e1 r1 => ?_
  exact h1 σ G1 H1 v W1 r1 Q fun z O' u G' H' k W' e' r' => q z O' u G' H' k W' (e1.trans e') r'
theorem d_cmp {op : CmpOp} {Φ : γ → List Own → Prop} (h : DW F K B Γ O a ra fun x O1 => DW F K B Γ O1 b rb fun y O2 => OW F K B Γ O2 (compareOp op) ra rb x y rc Φ)
    (hm : behindInMarks op b = false := by first | exact nomark _ | rfl) : DW F K B Γ O (.Compare a [op] [b] pos) rc Φ := by
  intro σ G H W Q q
  refine ⟨_, fun i => pe_cmpR (wOp.op i) (WE.pe i) (WE.pe i) hm, ?_⟩
  refine h σ G H W _ fun x O1 v G1 H1 h1 W1 e1 r1 => ?_
  refine h1 σ G1 H1 W1 _ fun y O2 w G2 H2 h2 W2 e2 r2 => ?_
  exact h2 σ G2 H2 v w W2 (ra.mono e2 r1) r2 Q fun z O' u G' H' k W' e' r' => q z O' u G' H' k W' ((e1.trans e2).trans e') r'
theorem dt_cmp {op : CmpOp} {Φ : Bool → List Own → Prop} (h : DW F K B Γ O a ra fun x O1 => DW F K B Γ O1 b rb fun y O2 => OW F K B Γ O2 (compareOp op) ra rb x y rBool Φ)
    (hm : behindInMarks op b = false := by first | exact nomark _ | rfl) : DT F K B Γ O (.Compare a [op] [b] pos) Φ := by
  intro σ G H W Q q
  refine ⟨_, fun i => pt_cmpR (wOp.op i) (WE.pe i) (WE.pe i) hm, ?_⟩
  refine h σ G H W _ fun x O1 v G1 H1 h1 W1 e1 r1 => ?_
  refine h1 σ G1 H1 W1 _ fun y O2 w G2 H2 h2 W2 e2 r2 => ?_
  exact h2 σ G2 H2 v w W2 (ra.mono e2 r1) r2 _ fun z O' u G' H' k W' e' r' => ⟨z, r', q z O' G' H' k W' ((e1.trans e2).trans e')⟩
theorem dt_chain {op op' : CmpOp} {Φ : Bool → List Own → Prop} (h : DW F K B Γ O a ra fun x O1 => DW F K B Γ O1 b rb fun y O2 => OW F K B Γ O2 (compareOp op) ra rb x y rBool fun z O3 =>
      (z = true → DW F K B Γ O3 c rc fun w O4 => OW F K B Γ O4 (compareOp op') rb rc y w rBool Φ) ∧ (z = false → Φ false O3))
    (hm : lastMarks [op, op'] [b, c] = false := by with_unfolding_all rfl) : DT F K B Γ O (.Compare a [op, op'] [b, c] pos) Φ := by
  intro σ G H W Q q
  refine ⟨_, fun i => pt_chain (wOp.op i) (wOp.op i) (WE.pe i) (WE.pe i) (WE.pe i) hm, ?_⟩
  refine h σ G H W _ fun x O1 v G1 H1 h1 W1 e1 r1 => ?_
  refine h1 σ G1 H1 W1 _ fun y O2 w G2 H2 h2 W2 e2 r2 => ?_
  refine h2 σ G2 H2 v w W2 (ra.mono e2 r1) r2 _ fun z O3 u G3 H3 k W3 e3 r3 => ⟨z, r3, ?_⟩
  have e13 := (e1.trans e2).trans e3
  cases z with
  | false => exact ⟨false, rfl, q false O3 G3 H3 (k.2 rfl) W3 e13⟩
  | true =>
    refine k.1 rfl σ G3 H3 W3 _ fun w' O4 v4 G4 H4 h4 W4 e4 r4 => ?_
    exact h4 σ G4 H4 w v4 W4 (rb.mono (e3.trans e4) r2) r4 _ fun z O' u G' H' k W' e' r' => ⟨z, r', q z O' G' H' k W' ((e13.trans e4).trans e')⟩
/-! tests -/
theorem dt_val {Φ : Bool → List Own → Prop} (h : DW F K B Γ O e rBool Φ) (he : ∀ i whole, isTrue e (F i).env whole = (do let v ← whole; standAt e.pos; holding [v] (truthy v)) := by intro _ _; rfl) : DT F K B Γ O e Φ := by
  intro σ G H W Q q
  refine ⟨_, fun i => pt_val (WE.pe i) (he i), ?_⟩
  exact h σ G H W _ fun x O1 v G1 H1 k W1 e1 r1 => ⟨x, r1, q x O1 G1 H1 k W1 e1⟩
theorem dt_not {Φ : Bool → List Own → Prop} (h : DT F K B Γ O a fun x O1 => Φ (!x) O1) : DT F K B Γ O (.UnaryOp .Not a pos) Φ := by
  intro σ G H W Q q
  refine ⟨_, fun i => pt_not (WT.pt i), ?_⟩
  exact h σ G H W _ fun x O1 G1 H1 k W1 e1 => q _ O1 G1 H1 k W1 e1
theorem dt_bool {op : BoolOp} {Φ : Bool → List Own → Prop} (h : DP F K B Γ O (.BoolOp op es pos) Φ) : DT F K B Γ O (.BoolOp op es pos) Φ := by
  intro σ G H W Q q
  exact ⟨_, fun i => (WP.pw i).pt, h σ G H W Q q⟩
theorem dp_and {Φ : Bool → List Own → Prop} (h : DT F K B Γ O a fun x O1 => (x = true → DP F K B Γ O1 (.BoolOp .And (b :: es) pos) Φ) ∧ (x = false → Φ false O1)) : DP F K B Γ O (.BoolOp .And (a :: b :: es) pos) Φ := by
  intro σ G H W Q q
  refine ⟨_, fun i => pw_and (WT.pt i) (WP.pw i), ?_⟩
  refine h σ G H W _ fun x O1 G1 H1 k W1 e1 => ?_
  cases x with
  | true => exact k.1 rfl σ G1 H1 W1 Q fun x O2 G2 H2 k W2 e2 => q x O2 G2 H2 k W2 (e1.trans e2)
  | false => exact q false O1 G1 H1 (k.2 rfl) W1 e1
theorem dp_or {Φ : Bool → List Own → Prop} (h : DT F K B Γ O a fun x O1 => (x = false → DP F K B Γ O1 (.BoolOp .Or (b :: es) pos) Φ) ∧ (x = true → Φ true O1)) : DP F K B Γ O (.BoolOp .Or (a :: b :: es) pos) Φ := by
  intro σ G H W Q q
  refine ⟨_, fun i => pw_or (WT.pt i) (WP.pw i), ?_⟩
  refine h σ G H W _ fun x O1 G1 H1 k W1 e1 => ?_
  cases x with
  | false => exact k.1 rfl σ G1 H1 W1 Q fun x O2 G2 H2 k W2 e2 => q x O2 G2 H2 k W2 (e1.trans e2)
  | true => exact q true O1 G1 H1 (k.2 rfl) W1 e1
theorem dp_and1 {Φ : Bool → List Own → Prop} (h : DT F K B Γ O a Φ) : DP F K B Γ O (.BoolOp .And [a] pos) Φ := fun σ G H W Q q => ⟨_, fun i => pw_and1 (WT.pt i), h σ G H W Q q⟩
theorem dp_or1 {Φ : Bool → List Own → Prop} (h : DT F K B Γ O a Φ) : DP F K B Γ O (.BoolOp .Or [a] pos) Φ := fun σ G H W Q q => ⟨_, fun i => pw_or1 (WT.pt i), h σ G H W Q q⟩
/-- as values, all True or False -/
theorem d_and {Φ : Bool → List Own → Prop} (h : DW F K B Γ O a rBool fun x O1 => (x = true → DW F K B Γ O1 (.BoolOp .And (b :: es) pos) rBool Φ) ∧ (x = false → Φ false O1)) : DW F K B Γ O (.BoolOp .And (a :: b :: es) pos) rBool Φ := by
  intro σ G H W Q q
  refine ⟨_, fun i => pe_and (WE.pe i) (WE.pe i), ?_⟩
  refine h σ G H W _ fun x O1 v G1 H1 k W1 e1 r1 => ⟨x, r1, ?_⟩
  cases x with
  | true => exact k.1 rfl σ G1 H1 W1 Q fun x O2 v G2 H2 k W2 e2 r2 => q x O2 v G2 H2 k W2 (e1.trans e2) r2
  | false => exact q false O1 _ G1 H1 (k.2 rfl) W1 e1 rfl
theorem d_or {Φ : Bool → List Own → Prop} (h : DW F K B Γ O a rBool fun x O1 => (x = false → DW F K B Γ O1 (.BoolOp .Or (b :: es) pos) rBool Φ) ∧ (x = true → Φ true O1)) : DW F K B Γ O (.BoolOp .Or (a :: b :: es) pos) rBool Φ := by
  intro σ G H W Q q
  refine ⟨_, fun i => pe_or (WE.pe i) (WE.pe i), ?_⟩
  refine h σ G H W _ fun x O1 v G1 H1 k W1 e1 r1 => ⟨x, r1, ?_⟩
  cases x with
  | false => exact k.1 rfl σ G1 H1 W1 Q fun x O2 v G2 H2 k W2 e2 r2 => q x O2 v G2 H2 k W2 (e1.trans e2) r2
  | true => exact q true O1 _ G1 H1 (k.2 rfl) W1 e1 rfl
theorem d_one {op : BoolOp} {Φ : α → List Own → Prop} (h : DW F K B Γ O a ra Φ) : DW F K B Γ O (.BoolOp op [a] pos) ra Φ := fun σ G H W Q q => ⟨_, fun i => pe_one (WE.pe i), h σ G H W Q q⟩
theorem d_ite {Φ : α → List Own → Prop} (h : DT F K B Γ O c fun x O1 => (x = true → DW F K B Γ O1 a ra Φ) ∧ (x = false → DW F K B Γ O1 b ra Φ)) : DW F K B Γ O (.IfExp c a b pos) ra Φ := by
  intro σ G H W Q q
  refine ⟨_, fun i => pe_ifExp (WT.pt i) (WE.pe i) (WE.pe i), ?_⟩
  refine h σ G H W _ fun x O1 G1 H1 k W1 e1 => ?_
  cases x with
  | true => exact k.1 rfl σ G1 H1 W1 Q fun x O2 v G2 H2 k W2 e2 r2 => q x O2 v G2 H2 k W2 (e1.trans e2) r2
  | false => exact k.2 rfl σ G1 H1 W1 Q fun x O2 v G2 H2 k W2 e2 r2 => q x O2 v G2 H2 k W2 (e1.trans e2) r2
/-! argument lists, displays -/
theorem da_one {Φ : α → List Own → Prop} (h : DW F K B Γ O a ra Φ) (hs : ∀ i, starEach [a] (F i).env = (false, eval a (F i).env) :: starEach [] (F i).env := by intro _; rfl) : DA F K B Γ O [a] (fOne ra) Φ := by
  intro σ G H W Q q
  refine ⟨_, fun i => pa_cons (WE.pe i) pa_nil (hs i), ?_⟩
  exact h σ G H W _ fun x O1 v G1 H1 k W1 e1 r1 => q x O1 [v] G1 H1 k W1 e1 ⟨v, rfl, r1⟩
theorem da_cons {f : RpF β} {Φ : α × β → List Own → Prop} (h : DW F K B Γ O a ra fun x O1 => DA F K B Γ O1 es f fun y O2 => Φ (x, y) O2)
    (hs : ∀ i, starEach (a :: es) (F i).env = (false, eval a (F i).env) :: starEach es (F i).env := by intro _; rfl) : DA F K B Γ O (a :: es) (fCons ra f) Φ := by
  intro σ G H W Q q
  refine ⟨_, fun i => pa_cons (WE.pe i) (WA.pa i) (hs i), ?_⟩
  refine h σ G H W _ fun x O1 v G1 H1 k W1 e1 r1 => ?_
  exact k σ G1 H1 W1 _ fun y O2 vs G2 H2 k2 W2 e2 r2 => q (x, y) O2 (v :: vs) G2 H2 k2 W2 (e1.trans e2) ⟨v, vs, rfl, ra.mono e2 r1, r2⟩
/-- items that are alike -/
def fAll (r : Rp α) : RpF (List α) := ⟨fun K G vs xs => All2 (r.rep K G) vs xs, fun e h => h.mono fun _ _ z => r.mono e z⟩
theorem da_all {Φ : List α → List Own → Prop} (h : DW F K B Γ O a ra fun x O1 => DA F K B Γ O1 es (fAll ra) fun y O2 => Φ (x :: y) O2)
    (hs : ∀ i, starEach (a :: es) (F i).env = (false, eval a (F i).env) :: starEach es (F i).env := by intro _; rfl) : DA F K B Γ O (a :: es) (fAll ra) Φ := by
  intro σ G H W Q q
  refine ⟨_, fun i => pa_cons (WE.pe i) (WA.pa i) (hs i), ?_⟩
  refine h σ G H W _ fun x O1 v G1 H1 k W1 e1 r1 => ?_
  exact k σ G1 H1 W1 _ fun y O2 vs G2 H2 k2 W2 e2 r2 => q (x :: y) O2 (v :: vs) G2 H2 k2 W2 (e1.trans e2) ⟨ra.mono e2 r1, r2⟩
theorem da_all0 {Φ : List α → List Own → Prop} (k : Φ [] O) : DA F K B Γ O [] (fAll ra) Φ := fun σ G H W Q q => ⟨_, fun i => pa_nil, q [] O [] G H k W (Ex.refl _) trivial⟩
/-- its number of values is known -/
class Len {α : Type} (f : RpF α) (n : outParam Nat) : Prop where
  len : ∀ {K : Fg} {G : Hp} {vs : List V} {x : α}, f.rep K G vs x → vs.length = n
instance lenNil : Len fNil 0 := ⟨fun h => by rw [show _ = ([] : List V) from h]; rfl⟩
instance lenOne {r : Rp α} : Len (fOne r) 1 := ⟨fun ⟨v, h, _⟩ => by rw [h]; rfl⟩
instance lenCons {r : Rp α} {f : RpF β} {n : Nat} [h : Len f n] : Len (fCons r f) (n + 1) := ⟨fun ⟨v, ws, h1, _, h3⟩ => by rw [h1, List.length_cons, h.len h3]⟩
theorem d_tup {f : RpF α} {k : Nat} {m : Nat} [hl : Len f m] {Φ : α → List Own → Prop} (h : DA F K B Γ O es f Φ) (hm : m ≤ sizeLine := by decide) : DW F K B Γ O (.Tuple es k pos) (rTup f) Φ := by
  intro σ G H W Q q
  refine ⟨_, fun i => pe_tup (WA.pa i), ?_⟩
  refine h σ G H W _ fun x O1 vs G1 H1 k W1 e1 r1 => ⟨by rw [hl.len r1]; exact hm, fun p hp => ?_⟩
  have s : Stp B.T [] G1 H1 (upd G1 p (.tup vs)) (upd H1 p (.tup vs)) := Stp.new W1.sub hp
  exact q x O1 _ _ _ k (W1.step s) (e1.trans s.g) ⟨p, vs, rfl, SqT.of upd_same, f.mono s.g r1⟩
/-- a tuple whose items are alike -/
theorem d_tpv {k : Nat} {Φ : List α → List Own → Prop} (h : DA F K B Γ O es (fAll ra) fun x O1 => x.length ≤ sizeLine ∧ Φ x O1) : DW F K B Γ O (.Tuple es k pos) (rTpv ra) Φ := by
  intro σ G H W Q q
  refine ⟨_, fun i => pe_tup (WA.pa i), ?_⟩
  refine h σ G H W _ fun x O1 vs G1 H1 k W1 e1 r1 => ⟨by rw [All2.length r1]; exact k.1, fun p hp => ?_⟩
  have s : Stp B.T [] G1 H1 (upd G1 p (.tup vs)) (upd H1 p (.tup vs)) := Stp.new W1.sub hp
  exact q x O1 _ _ _ k.2 (W1.step s) (e1.trans s.g) ⟨p, vs, rfl, SqT.of upd_same, (fAll ra).mono s.g r1⟩
theorem d_lst {Φ : List α → List Own → Prop} (h : DA F K B Γ O es (fAll ra) fun x O1 => x.length ≤ sizeLine ∧ Φ x O1) : DW F K B Γ O (.List es pos) (rLst ra) Φ := by
  intro σ G H W Q q
  refine ⟨_, fun i => pe_lst (WA.pa i), ?_⟩
  refine h σ G H W _ fun x O1 vs G1 H1 k W1 e1 r1 => ⟨by rw [All2.length r1]; exact k.1, fun p hp => ?_⟩
  have s : Stp B.T [] G1 H1 (upd G1 p (.lst vs)) (upd H1 p (.lst vs)) := Stp.new W1.sub hp
  exact q x O1 _ _ _ k.2 (W1.step s) (e1.trans s.g) ⟨p, vs, rfl, upd_same, (fAll ra).mono s.g r1⟩
/-- a list of one's own -/
theorem d_lstO {Φ : Addr → List Own → Prop} (h : DA F K B Γ O es (fAll ra) fun x O1 => x.length ≤ sizeLine ∧ ∀ p, p ∉ B.M → Φ p (⟨p, oLst ra, x⟩ :: O1)) : DW F K B Γ O (.List es pos) rAdr Φ := by
  intro σ G H W Q q
  refine ⟨_, fun i => pe_lst (WA.pa i), ?_⟩
  refine h σ G H W _ fun x O1 vs G1 H1 k W1 e1 r1 => ⟨by rw [All2.length r1]; exact k.1, fun p hp => ?_⟩
  exact q p _ _ G1 _ (k.2 p (W1.notM hp)) (W1.newOwn hp (r := oLst ra) (x := x) ⟨vs, rfl, r1⟩) e1 rfl
/-! calls -/
/-- what a family of contexts shares -/
class Fam (F : ι → Cx) (P : outParam Program) (w : outParam World) (K : outParam Fg) (mg : outParam (Str → Option Value)) (base : outParam Heap) (k : outParam Nat) : Prop where
  pr : ∀ i, (F i).prog = P
  wd : ∀ i, (F i).w = w
  ka : ∀ i, (F i).K = K
  mg : ∀ i, (F i).mg = mg
  bs : ∀ i, (F i).base = base
  rm : ∀ i, Room k (F i).A
  cm : ∀ i, (F i).calm = true
  nd : ∀ i, (F i).N.Nodup
variable {P : Program} {w : World} {mg : Str → Option Value} {base : Heap} {k : Nat}
/-- a def of the module -/
structure Df (K : Fg) (mg : Str → Option Value) (n : Str) (st : Stmt) (ps : List Str) where
  f : Addr
  fd : FuncData
  F : Fun K n n st f fd
  m : mg n = some (.ref f)
  b : Binds K fd ps []
/-- a call of a def -/
theorem d_call [fam : Fam F P w K mg base k] {j : Nat} {st : Stmt} {ps : List Str} {sp : Sp} (D : Df K mg n st ps) (G : FnOk P w K mg base CX0 j D.f D.fd ps sp) {g : RpF α} {Φ : γ → List Own → Prop}
    (h : DA F K B Γ O (e :: es) g fun x O1 => SW K B Γ O1 sp [] g x rc Φ) (hj : j ≤ k := by decide) (hdb : (n == ("__debug__" : Str)) = false := by decide) (hg : ∀ i, Gl (F i) n := by intro _; rfl)
    (he : ∀ i, starEach (e :: es) (F i).env = (false, eval e (F i).env) :: starEach es (F i).env := by intro _; rfl) (hpl : ∀ i, (backTo pos (starEach es (F i).env)).any (·.1) = false := by intro _; rfl) :
    DW F K B Γ O (.Call (.Name n p) (e :: es) [] pos) rc Φ := by
  intro σ G' H W Q q
  refine ⟨tCall sp [] E0 (WA F (e :: es)), fun i => ?_, h σ G' H W _ fun x O1 vs G1 H1 k W1 e1 r1 => k σ G1 H1 vs W1 r1 Q fun z O' u G2 H2 k2 W2 e2 r2 => q z O' u G2 H2 k2 W2 (e1.trans e2) r2⟩
  have h1 := fam.pr i
  have h2 := fam.wd i
  have h3 := fam.ka i
  have h4 := fam.mg i
  have h5 := fam.bs i
  have G2 : FnOk (F i).prog (F i).w (F i).K (F i).mg (F i).base CX0 j D.f D.fd ps sp := by rw [h1, h2, h3, h4, h5]; exact G
  have m2 : (F i).mg n = some (.ref D.f) := by rw [h4]; exact D.m
  have k2 : PySem.W.keepIn (F i).K (.ref D.f) = true := by rw [h3]; exact D.F.kp
  have b2 : Binds (F i).K D.fd ps [] := by rw [h3]; exact D.b
  exact pe_call G2 ((fam.rm i).mono hj) (hg i) m2 k2 b2 .nil pass0 (WA.pa i) (hdb := hdb) (he := he i) (hpl := hpl i)
/-- a call of a built-in function, of a built-in type -/
theorem d_callB [fam : Fam F P w K mg base k] {id : String} {g : RpF α} {Φ : γ → List Own → Prop} (hm : mg n = none) (hv : bootBuiltins n = some (.builtin id)) (h : DA F K B Γ O (e :: es) g fun x O1 => CW F K B Γ O1 (.builtin id) g x rc Φ)
    (hg : ∀ i, Gl (F i) n := by intro _; rfl) (hn : n ≠ "__name__" := by decide) (hdb : (n == ("__debug__" : Str)) = false := by decide)
    (he : ∀ i, starEach (e :: es) (F i).env = (false, eval e (F i).env) :: starEach es (F i).env := by intro _; rfl) (hpl : ∀ i, (backTo pos (starEach es (F i).env)).any (·.1) = false := by intro _; rfl) :
    DW F K B Γ O (.Call (.Name n p) (e :: es) [] pos) rc Φ := by
  intro σ G H W Q q
  refine ⟨_, fun i => pe_callB (wCl.cl i) (hg i) (by rw [fam.mg i]; exact hm) hv (WA.pa i) hn hdb (he i) (hpl i), ?_⟩
  refine h σ G H W _ fun x O1 vs G1 H1 k W1 e1 r1 => ?_
  exact k σ G1 H1 vs W1 r1 Q fun z O' u G2 H2 k2 W2 e2 r2 => q z O' u G2 H2 k2 W2 (e1.trans e2) r2
theorem d_callT [fam : Fam F P w K mg base k] {T : String} {g : RpF α} {Φ : γ → List Own → Prop} (hm : mg n = none) (hv : bootBuiltins n = some (.type T)) (h : DA F K B Γ O (e :: es) g fun x O1 => CW F K B Γ O1 (.type T) g x rc Φ)
    (hg : ∀ i, Gl (F i) n := by intro _; rfl) (hn : n ≠ "__name__" := by decide) (hdb : (n == ("__debug__" : Str)) = false := by decide)
    (he : ∀ i, starEach (e :: es) (F i).env = (false, eval e (F i).env) :: starEach es (F i).env := by intro _; rfl) (hpl : ∀ i, (backTo pos (starEach es (F i).env)).any (·.1) = false := by intro _; rfl) :
    DW F K B Γ O (.Call (.Name n p) (e :: es) [] pos) rc Φ := by
  intro σ G H W Q q
  refine ⟨_, fun i => pe_callTy (wCl.cl i) (hg i) (by rw [fam.mg i]; exact hm) hv (WA.pa i) hn hdb (he i) (hpl i), ?_⟩
  refine h σ G H W _ fun x O1 vs G1 H1 k W1 e1 r1 => ?_
  exact k σ G1 H1 vs W1 r1 Q fun z O' u G2 H2 k2 W2 e2 r2 => q z O' u G2 H2 k2 W2 (e1.trans e2) r2
/-- a module's constant; a built-in class as a value -/
theorem d_glob [fam : Fam F P w K mg base k] {v : V} {u : Value} {x : α} {Φ : α → List Own → Prop} (hm : mg n = some u) (r : RelV v u) (hx : ∀ G, ra.rep K G v x) (k : Φ x O) (hg : ∀ j, Gl (F j) n := by intro _; rfl) (hd : (n == ("__debug__" : Str)) = false := by decide) :
    DW F K B Γ O (.Name n pos) ra Φ := d_globF (fun j => by rw [fam.mg j]; exact hm) r hx k hg hd
theorem d_cls [fam : Fam F P w K mg base k] {T : String} {Φ : String → List Own → Prop} (hm : mg n = none) (hv : bootBuiltins n = some (.type T)) (k : Φ T O) (hg : ∀ j, Gl (F j) n := by intro _; rfl)
    (hn : n ≠ "__name__" := by decide) (hd : (n == ("__debug__" : Str)) = false := by decide) : DW F K B Γ O (.Name n pos) rTy Φ := d_bltnF (v := .ty T) (fun j => by rw [fam.mg j]; exact hm) hv rfl (fun _ => rfl) k hg hn hd
/-- a[b] -/
theorem d_ix {Φ : γ → List Own → Prop} (h : DW F K B Γ O a ra fun x O1 => DW F K B Γ O1 b rb fun y O2 => IW F K B Γ O2 ra rb x y rc Φ) (hs : PlainIx b := by intro _ _; rfl) : DW F K B Γ O (.Subscript a b pos) rc Φ := by
  intro σ G H W Q q
  refine ⟨_, fun i => pe_ix (wIx.ix i) (WE.pe i) (WE.pe i) hs, ?_⟩
  refine h σ G H W _ fun x O1 v G1 H1 h1 W1 e1 r1 => ?_
  refine h1 σ G1 H1 W1 _ fun y O2 w G2 H2 h2 W2 e2 r2 => ?_
  exact h2 σ G2 H2 v w W2 (ra.mono e2 r1) r2 Q fun z O' u G' H' k W' e' r' => q z O' u G' H' k W' ((e1.trans e2).trans e') r'
end
end Sk
set_option Elab.async false
set_option linter.all false
set_option maxRecDepth 100000
set_option maxHeartbeats 4100000
/-! Sk3: operators on typed data, statements, loops, comprehensions, promises of defs. -/
namespace Sk
open PySem L2 Evl
/-! ### bounds of rgI, by their bits -/
class Bd (k : outParam Nat) (x : Int) : Prop where
  lt : x.natAbs < 2 ^ k
theorem two_le {a b : Nat} (h : a ≤ b) : 2 ^ a ≤ 2 ^ b := Nat.pow_le_pow_right (by decide) h
theorem bdAdd {a b : Nat} {x y : Int} (h1 : Bd a x) (h2 : Bd b y) : Bd (max a b + 1) (x + y) := ⟨by
  have p := two_le (Nat.le_max_left a b)
  have q := two_le (Nat.le_max_right a b)
  have r1 := h1.lt
  have r2 := h2.lt
  rw [Nat.pow_succ]
  omega⟩
theorem bdSub {a b : Nat} {x y : Int} (h1 : Bd a x) (h2 : Bd b y) : Bd (max a b + 1) (x - y) := ⟨by
  have p := two_le (Nat.le_max_left a b)
  have q := two_le (Nat.le_max_right a b)
  have r1 := h1.lt
  have r2 := h2.lt
  rw [Nat.pow_succ]
  omega⟩
instance (priority := low) {a b : Nat} {x y : Int} [h1 : Bd a x] [h2 : Bd b y] : Bd (max a b + 1) (x + y) := bdAdd h1 h2
instance (priority := low) {a b : Nat} {x y : Int} [h1 : Bd a x] [h2 : Bd b y] : Bd (max a b + 1) (x - y) := bdSub h1 h2
instance (priority := low) {a : Nat} {x : Int} [h1 : Bd a x] : Bd a (-x) := ⟨by rw [Int.natAbs_neg]; exact h1.lt⟩
instance (priority := low) {a b : Nat} {x y : Int} [h1 : Bd a x] [h2 : Bd b y] : Bd (a + b) (x * y) := ⟨wide_lt h1.lt h2.lt⟩
instance (priority := low) {a b : Nat} {x y : Int} {c : Prop} [Decidable c] [h1 : Bd a x] [h2 : Bd b y] : Bd (max a b) (if c then x else y) := ⟨by
  split
  · exact Nat.lt_of_lt_of_le h1.lt (two_le (Nat.le_max_left a b))
  · exact Nat.lt_of_lt_of_le h2.lt (two_le (Nat.le_max_right a b))⟩
instance (priority := low) {n : Nat} : Bd (Nat.log2 n + 1) (no_index (OfNat.ofNat n) : Int) := ⟨by
  have h : ((OfNat.ofNat n : Int)).natAbs = n := by rfl
  rw [h]
  exact Nat.lt_log2_self⟩
theorem Bd.of {k : Nat} {x : Int} (h1 : -(2 ^ k) < x) (h2 : x < 2 ^ k) : Bd k x := ⟨by
  have e : ((2 ^ k : Nat) : Int) = (2 : Int) ^ k := by simp
  have h3 : -((2 ^ k : Nat) : Int) < x := by rw [e]; exact h1
  have h4 : x < ((2 ^ k : Nat) : Int) := by rw [e]; exact h2
  omega⟩
theorem Bd.mono {j k : Nat} {x : Int} (h : Bd j x) (hk : j ≤ k) : Bd k x := ⟨Nat.lt_of_lt_of_le h.lt (two_le hk)⟩
theorem log2_le {k : Nat} {x : Int} (h : Bd k x) : x.natAbs.log2 ≤ k := by
  by_cases h0 : k = 0
  · subst h0
    have := h.lt
    have e : x.natAbs = 0 := by omega
    rw [e]
    decide
  · exact Nat.le_of_lt (PySem.Flt.log2_lt_of (by omega) h.lt)
theorem mulOk {a b : Nat} {x y : Int} [h1 : Bd a x] [h2 : Bd b y] (h : a + b ≤ 900000 := by decide) : CMulW x y := by
  have p := log2_le h1
  have q := log2_le h2
  unfold CMulW
  omega
theorem divOk {b : Nat} {x y : Int} [h2 : Bd b y] (hy : 0 < y) (h : b ≤ 8999 := by decide) : CDivW x y := ⟨hy, by
  have q := log2_le h2
  omega⟩
/-! ### operators -/
section
variable {ι : Type} {F : ι → Cx} {K : Fg} {B : Bs} {Γ : Gm} {O : List Own} {α β γ : Type} {ra : Rp α} {rb : Rp β} {rc : Rp γ}
section
variable {x y : Int} {Φ : Int → List Own → Prop} {Ψ : Bool → List Own → Prop}
theorem o_add (k : Φ (x + y) O) : OW F K B Γ O (binaryOp .Add) rInt rInt x y rInt Φ := fun σ G H v w W rv rw Q q => ⟨_, fun _ => op_add, x, y, rv, rw, q _ O _ G H k W (Ex.refl _) rfl⟩
theorem o_sub (k : Φ (x - y) O) : OW F K B Γ O (binaryOp .Sub) rInt rInt x y rInt Φ := fun σ G H v w W rv rw Q q => ⟨_, fun _ => op_sub, x, y, rv, rw, q _ O _ G H k W (Ex.refl _) rfl⟩
theorem o_mul (h : CMulW x y) (k : Φ (x * y) O) : OW F K B Γ O (binaryOp .Mult) rInt rInt x y rInt Φ := fun σ G H v w W rv rw Q q => ⟨_, fun _ => op_mulW, x, y, rv, rw, h, q _ O _ G H k W (Ex.refl _) rfl⟩
theorem o_div (h : CDivW x y) (k : Φ (x / y) O) : OW F K B Γ O (binaryOp .FloorDiv) rInt rInt x y rInt Φ := fun σ G H v w W rv rw Q q => ⟨_, fun _ => op_fdivW, x, y, rv, rw, h, q _ O _ G H k W (Ex.refl _) rfl⟩
theorem o_mod (h : 0 < y) (k : Φ (x % y) O) : OW F K B Γ O (binaryOp .Mod) rInt rInt x y rInt Φ := fun σ G H v w W rv rw Q q => ⟨_, fun _ => op_mod, x, y, rv, rw, h, q _ O _ G H k W (Ex.refl _) rfl⟩
theorem o_pow (h : 0 ≤ y ∧ y ≤ 1000000 ∧ x.natAbs < 2 ^ 64) (k : Φ (x ^ y.toNat) O) : OW F K B Γ O (binaryOp .Pow) rInt rInt x y rInt Φ := fun σ G H v w W rv rw Q q => ⟨_, fun _ => op_pow, x, y, rv, rw, h, q _ O _ G H k W (Ex.refl _) rfl⟩
theorem o_lt (k : Ψ (decide (x < y)) O) : OW F K B Γ O (compareOp .Lt) rInt rInt x y rBool Ψ := fun σ G H v w W rv rw Q q => ⟨_, fun _ => op_lt, x, y, rv, rw, q _ O _ G H k W (Ex.refl _) rfl⟩
theorem o_le (k : Ψ (decide (x ≤ y)) O) : OW F K B Γ O (compareOp .LtE) rInt rInt x y rBool Ψ := fun σ G H v w W rv rw Q q => ⟨_, fun _ => op_le, x, y, rv, rw, q _ O _ G H k W (Ex.refl _) rfl⟩
theorem o_gt (k : Ψ (decide (y < x)) O) : OW F K B Γ O (compareOp .Gt) rInt rInt x y rBool Ψ := fun σ G H v w W rv rw Q q => ⟨_, fun _ => op_gt, x, y, rv, rw, q _ O _ G H k W (Ex.refl _) rfl⟩
theorem o_ge (k : Ψ (decide (y ≤ x)) O) : OW F K B Γ O (compareOp .GtE) rInt rInt x y rBool Ψ := fun σ G H v w W rv rw Q q => ⟨_, fun _ => op_ge, x, y, rv, rw, q _ O _ G H k W (Ex.refl _) rfl⟩
theorem o_eqI (k : Ψ (decide (x = y)) O) : OW F K B Γ O (compareOp .Eq) rInt rInt x y rBool Ψ := fun σ G H v w W rv rw Q q => ⟨_, fun _ => op_eq, by
  rw [show v = V.int x from rv, show w = V.int y from rw]
  refine ⟨rfl, q _ O _ G H k W (Ex.refl _) ?_⟩
  show V.bl (decide (V.int x = V.int y)) = V.bl (decide (x = y))
  simp⟩
theorem u_neg (k : Φ (-x) O) : UW F K B Γ O (unaryOp .USub) rInt x rInt Φ := fun σ G H v W rv Q q => ⟨_, fun _ => un_neg, x, rv, q _ O _ G H k W (Ex.refl _) rfl⟩
end
theorem o_eqS {x y : Str} {Ψ : Bool → List Own → Prop} (k : Ψ (decide (x = y)) O) : OW F K B Γ O (compareOp .Eq) rStr rStr x y rBool Ψ := fun σ G H v w W rv rw Q q => ⟨_, fun _ => op_eq, by
  rw [show v = V.str x from rv, show w = V.str y from rw]
  refine ⟨rfl, q _ O _ G H k W (Ex.refl _) ?_⟩
  show V.bl (decide (V.str x = V.str y)) = V.bl (decide (x = y))
  simp⟩
theorem o_neS {x y : Str} {Ψ : Bool → List Own → Prop} (k : Ψ (!decide (x = y)) O) : OW F K B Γ O (compareOp .NotEq) rStr rStr x y rBool Ψ := fun σ G H v w W rv rw Q q => ⟨_, fun _ => op_ne, by
  rw [show v = V.str x from rv, show w = V.str y from rw]
  refine ⟨rfl, q _ O _ G H k W (Ex.refl _) ?_⟩
  show V.bl (!decide (V.str x = V.str y)) = V.bl (!decide (x = y))
  simp⟩
theorem dec_none {α : Type} {r : Rp α} {K : Fg} {G : Hp} {v : V} {x : Option α} (h : (rOpt r).rep K G v x) : decide (v = V.non) = x.isNone := by
  cases x with
  | none =>
    rw [show v = V.non from h]
    rfl
  | some y =>
    rw [decide_eq_false h.1]
    rfl
theorem o_isN {x : Option α} {u : Unit} {Ψ : Bool → List Own → Prop} (k : Ψ x.isNone O) : OW F K B Γ O (compareOp .Is) (rOpt ra) rNon x u rBool Ψ := fun σ G H v w W rv rw Q q => ⟨_, fun _ => op_isN, rw, q _ O _ G H k W (Ex.refl _) (by
  show V.bl (decide (v = V.non)) = V.bl x.isNone
  rw [dec_none rv])⟩
theorem o_notN {x : Option α} {u : Unit} {Ψ : Bool → List Own → Prop} (k : Ψ (!x.isNone) O) : OW F K B Γ O (compareOp .IsNot) (rOpt ra) rNon x u rBool Ψ := fun σ G H v w W rv rw Q q => ⟨_, fun _ => op_notN, rw, q _ O _ G H k W (Ex.refl _) (by
  show V.bl (!decide (v = V.non)) = V.bl (!x.isNone)
  rw [dec_none rv])⟩
/-! ### items -/
theorem atI_ok {n : Nat} {i : Int} (h0 : 0 ≤ i) (h1 : i < n) : ixN n i = some i.toNat := by
  unfold ixN
  rw [if_pos h0, if_pos h1]
theorem i_lst {xs : List α} {i : Int} {x : α} {Φ : α → List Own → Prop} (h : atI xs i = some x) (k : Φ x O) (hK : ∀ j, (F j).K = K := by intro _; rfl) : IW F K B Γ O (rLst ra) rInt xs i ra Φ := by
  intro σ G H v w W rv rw Q q
  obtain ⟨a, vs, h1, h2, h3⟩ := rv
  unfold atI at h
  obtain ⟨j, h4, h5⟩ := Option.bind_eq_some_iff.mp h
  obtain ⟨u, h6, h7⟩ := h3.get' h5
  refine ⟨rIxL K, fun j => by rw [← hK j]; exact ix_list, a, vs, i, u, h1, rw, SqL.of (W.sub _ _ h2), ?_, q x O u G H k W (Ex.refl _) h7⟩
  unfold atI
  rw [h3.length, h4]
  exact h6
theorem i_tpv {xs : List α} {i : Int} {x : α} {Φ : α → List Own → Prop} (h : atI xs i = some x) (k : Φ x O) (hK : ∀ j, (F j).K = K := by intro _; rfl) : IW F K B Γ O (rTpv ra) rInt xs i ra Φ := by
  intro σ G H v w W rv rw Q q
  obtain ⟨a, vs, h1, h2, h3⟩ := rv
  unfold atI at h
  obtain ⟨j, h4, h5⟩ := Option.bind_eq_some_iff.mp h
  obtain ⟨u, h6, h7⟩ := h3.get' h5
  refine ⟨rIxT K, fun j => by rw [← hK j]; exact ix_tup, a, vs, i, u, h1, rw, ex_t W.sub h2, ?_, q x O u G H k W (Ex.refl _) h7⟩
  unfold atI
  rw [h3.length, h4]
  exact h6
/-- the i-th of unlike things -/
class FAt {α : Type} (f : RpF α) (i : Nat) {β : outParam Type} (r : outParam (Rp β)) (g : outParam (α → β)) : Prop where
  get : ∀ {K : Fg} {G : Hp} {vs : List V} {x : α}, f.rep K G vs x → ∃ v, vs[i]? = some v ∧ r.rep K G v (g x)
instance fat1 {r : Rp α} : FAt (fOne r) 0 r (fun x => x) := ⟨fun ⟨v, h, k⟩ => ⟨v, by rw [h]; rfl, k⟩⟩
instance fat0 {r : Rp α} {f : RpF β} : FAt (fCons r f) 0 r (fun x => x.1) := ⟨fun ⟨v, ws, h, k, _⟩ => ⟨v, by rw [h]; rfl, k⟩⟩
instance fatS {r : Rp α} {f : RpF β} {i : Nat} {r' : Rp γ} {g : β → γ} [h : FAt f i r' g] : FAt (fCons r f) (i + 1) r' (fun x => g x.2) := ⟨fun ⟨v, ws, e, _, k⟩ => let ⟨u, h1, h2⟩ := h.get k; ⟨u, by rw [e]; simpa using h1, h2⟩⟩
theorem i_tup {f : RpF α} {x : α} (i : Nat) {r : Rp β} {g : α → β} [hf : FAt f i r g] {Φ : β → List Own → Prop} (k : Φ (g x) O) (hK : ∀ j, (F j).K = K := by intro _; rfl) : IW F K B Γ O (rTup f) rInt x ((OfNat.ofNat i : Nat) : Int) r Φ := by
  intro σ G H v w W rv rw Q q
  obtain ⟨a, vs, h1, h2, h3⟩ := rv
  obtain ⟨u, h4, h5⟩ := hf.get h3
  exact ⟨rIxT K, fun j => by rw [← hK j]; exact ix_tup, a, vs, (i : Int), u, h1, rw, ex_t W.sub h2, atI_nat h4, q _ O u G H k W (Ex.refl _) h5⟩
/-! ### built-in functions -/
theorem c_abs {x : Int} {Φ : Int → List Own → Prop} (k : Φ (if x < 0 then -x else x) O) : CW F K B Γ O (.builtin "abs") (fOne rInt) x rInt Φ := fun σ G H vs W ⟨v, e, rv⟩ Q q => ⟨_, fun _ => call_abs, x, by rw [e, show v = V.int x from rv], q _ O _ G H k W (Ex.refl _) rfl⟩
theorem c_int {x : Int} {Φ : Int → List Own → Prop} (k : Φ x O) : CW F K B Γ O (.type "int") (fOne rInt) x rInt Φ := fun σ G H vs W ⟨v, e, rv⟩ Q q => ⟨_, fun _ => call_int1, .inl ⟨x, by rw [e, show v = V.int x from rv], q _ O _ G H k W (Ex.refl _) rfl⟩⟩
theorem c_max2 {x : Int × Int} {Φ : Int → List Own → Prop} (k : Φ (if x.2 > x.1 then x.2 else x.1) O) (hc : ∀ j, (F j).calm = true := by intro _; rfl) : CW F K B Γ O (.builtin "max") (fCons rInt (fOne rInt)) x rInt Φ :=
  fun σ G H vs W ⟨v, ws, e, rv, u, e2, ru⟩ Q q => ⟨_, fun j => call_max2 (hc j), x.1, x.2, by rw [e, e2, show v = V.int x.1 from rv, show u = V.int x.2 from ru], q _ O _ G H k W (Ex.refl _) rfl⟩
theorem c_min2 {x : Int × Int} {Φ : Int → List Own → Prop} (k : Φ (if x.2 < x.1 then x.2 else x.1) O) (hc : ∀ j, (F j).calm = true := by intro _; rfl) : CW F K B Γ O (.builtin "min") (fCons rInt (fOne rInt)) x rInt Φ :=
  fun σ G H vs W ⟨v, ws, e, rv, u, e2, ru⟩ Q q => ⟨_, fun j => call_min2 (hc j), x.1, x.2, by rw [e, e2, show v = V.int x.1 from rv, show u = V.int x.2 from ru], q _ O _ G H k W (Ex.refl _) rfl⟩
theorem c_lenL {xs : List α} {Φ : Int → List Own → Prop} (k : Φ (xs.length : Int) O) (hK : ∀ j, (F j).K = K := by intro _; rfl) : CW F K B Γ O (.builtin "len") (fOne (rLst ra)) xs rInt Φ :=
  fun σ G H vs W ⟨v, e, a, ws, h1, h2, h3⟩ Q q => ⟨fun xs H Q => ∃ p ys, xs = [.ref p] ∧ (SqL K H p ys ∨ SqT K H p ys) ∧ Q (.int ys.length) H, fun j => by rw [← hK j]; exact call_len_seq, a, ws, by rw [e, h1], .inl (SqL.of (W.sub _ _ h2)), q _ O _ G H k W (Ex.refl _) (by rw [h3.length]; rfl)⟩
theorem c_lenS {xs : List α} {Φ : Int → List Own → Prop} (k : Φ (xs.length : Int) O) (hK : ∀ j, (F j).K = K := by intro _; rfl) : CW F K B Γ O (.builtin "len") (fOne (rSeq ra)) xs rInt Φ :=
  fun σ G H vs W ⟨v, e, a, ws, h1, h2, h3⟩ Q q => ⟨fun xs H Q => ∃ p ys, xs = [.ref p] ∧ (SqL K H p ys ∨ SqT K H p ys) ∧ Q (.int ys.length) H, fun j => by rw [← hK j]; exact call_len_seq, a, ws, by rw [e, h1], .inl (ex_l W.sub h2), q _ O _ G H k W (Ex.refl _) (by rw [h3.length]; rfl)⟩
theorem c_lenT {xs : List α} {Φ : Int → List Own → Prop} (k : Φ (xs.length : Int) O) (hK : ∀ j, (F j).K = K := by intro _; rfl) : CW F K B Γ O (.builtin "len") (fOne (rTpv ra)) xs rInt Φ :=
  fun σ G H vs W ⟨v, e, a, ws, h1, h2, h3⟩ Q q => ⟨fun xs H Q => ∃ p ys, xs = [.ref p] ∧ (SqL K H p ys ∨ SqT K H p ys) ∧ Q (.int ys.length) H, fun j => by rw [← hK j]; exact call_len_seq, a, ws, by rw [e, h1], .inr (ex_t W.sub h2), q _ O _ G H k W (Ex.refl _) (by rw [h3.length]; rfl)⟩
/-- what isinstance asks of a thing: its built-in type -/
class Kind (r : Rp α) (t : outParam String) : Prop where
  ty : ∀ {K : Fg} {G H : Hp} {v : V} {x : α}, Ex G H → r.rep K G v x → TyX K H v (.type t)
instance : Kind rInt "int" := ⟨fun _ h => by rw [show _ = V.int _ from h]; exact .base (.int _)⟩
instance : Kind rBool "bool" := ⟨fun _ h => by rw [show _ = V.bl _ from h]; exact .base (.bl _)⟩
instance : Kind rStr "str" := ⟨fun _ h => by rw [show _ = V.str _ from h]; exact .base (.str _)⟩
instance {r : Rp α} : Kind (rLst r) "list" := ⟨fun e ⟨a, vs, h1, h2, _⟩ => by rw [h1]; exact .base (.lst (e _ _ h2))⟩
theorem tyx_tup {K : Fg} {H : Hp} {a : Addr} {vs : List V} (h : SqT K H a vs) : TyX K H (.ref a) (.type "tuple") := by
  rcases h with (h | ⟨o, h⟩) | ⟨o, its, n, h1, h2, _⟩
  · exact .base (.tup h)
  · exact .fTuple h
  · exact .kTuple h1 h2
instance {r : Rp α} : Kind (rTpv r) "tuple" := ⟨fun e ⟨a, vs, h1, h2, _⟩ => by rw [h1]; exact tyx_tup (ex_t e h2)⟩
instance {f : RpF α} : Kind (rTup f) "tuple" := ⟨fun e ⟨a, vs, h1, h2, _⟩ => by rw [h1]; exact tyx_tup (ex_t e h2)⟩
theorem c_isi {r : Rp α} {t : String} [hk : Kind r t] {x : α × String} {b : Bool} {Φ : Bool → List Own → Prop} (hb : PySem.W.kitOne K (.type t) (.type x.2) = some b) (k : Φ b O) (hK : ∀ j, (F j).K = K := by intro _; rfl) :
    CW F K B Γ O (.builtin "isinstance") (fCons r (fOne rTy)) x rBool Φ :=
  fun σ G H vs W ⟨v, ws, e, rv, u, e2, ru⟩ Q q => ⟨rIsi K, fun j => by rw [← hK j]; exact call_isi, v, .ty x.2, .type t, .type x.2, b, by rw [e, e2, show u = V.ty x.2 from ru], .ty _, hk.ty W.sub rv, hb, q b O _ G H k W (Ex.refl _) rfl⟩
end
/-- the env with the i-th slot set -/
class SetG (Γ : Gm) (i : Nat) (f : outParam (Option Slot → Gm)) : Prop where
  eq : ∀ s, f s = Γ.set i s
instance setG0 {Γ : Gm} {g : Option Slot} : SetG (g :: Γ) 0 (fun s => s :: Γ) := ⟨fun _ => rfl⟩
instance setGS {Γ : Gm} {g : Option Slot} {i : Nat} {f : Option Slot → Gm} [h : SetG Γ i f] : SetG (g :: Γ) (i + 1) (fun s => g :: f s) := ⟨fun s => by rw [h.eq]; rfl⟩
theorem wipe_at {σ : St} : ∀ {vs : List Nat} {j : Nat}, (wipe σ vs)[j]? = if j ∈ vs then (if j < σ.length then some none else none) else σ[j]?
  | [], j => by simp [wipe]
  | v :: vs, j => by
    unfold wipe
    by_cases h : v = j
    · subst h
      by_cases hl : v < σ.length
      · rw [List.getElem?_set_self (by rw [wipe_length]; exact hl)]
        simp [hl]
      · rw [List.getElem?_eq_none (by rw [List.length_set, wipe_length]; omega)]
        simp [hl]
    · rw [List.getElem?_set_ne h, wipe_at]
      have e : (j ∈ v :: vs) ↔ (j ∈ vs) := by
        rw [List.mem_cons]
        exact ⟨fun q => q.elim (fun z => (h z.symm).elim) id, Or.inr⟩
      by_cases hj : j ∈ vs
      · rw [if_pos hj, if_pos (e.mpr hj)]
      · rw [if_neg hj, if_neg fun z => hj (e.mp z)]
theorem wipe_set {σ : St} {i : Nat} {u : Option V} {vs : List Nat} (h : i ∈ vs) : wipe (σ.set i u) vs = wipe σ vs := by
  refine List.ext_getElem? fun (j : Nat) => ?_
  rw [wipe_at, wipe_at, List.length_set]
  by_cases hj : j ∈ vs
  · rw [if_pos hj, if_pos hj]
  · rw [if_neg hj, if_neg hj, List.getElem?_set_ne (show i ≠ j from fun z => hj (by rw [← z]; exact h))]
/-! ### statements -/
def DS (X : Cx) (K : Fg) (B : Bs) (Γ : Gm) (O : List Own) (sts : List Stmt) (D : Ends) : Prop := ∀ σ G H, Ws K B Γ O σ G H → WSs X sts D σ H
def RT (K : Fg) (B : Bs) (Γ : Gm) (O : List Own) {α : Type} (r : Rp α) (x : α) (D : Ends) : Prop := ∀ v σ G H, Ws K B Γ O σ G H → r.rep K G v x → D.rt v H
abbrev Us (X : Cx) : Unit → Cx := fun _ => X
section
variable {X : Cx} {K : Fg} {B : Bs} {Γ Γ' : Gm} {O O' : List Own} {α β : Type} {ra : Rp α} {D D0 : Ends} {e c : Expr} {rest sa sb : List Stmt} {n : Str} {pos p : Pos}
variable {P : Program} {w : World} {mg : Str → Option Value} {base : Heap} {k : Nat}
/-- the own objects in another order, some dropped -/
theorem s_own (q : DS X K B Γ O' rest D) (hs : ∀ w ∈ O', w ∈ O) (hn : (O.map (·.a)).Nodup → (O'.map (·.a)).Nodup) : DS X K B Γ O rest D := fun σ G H W => q σ G H (W.perm hs hn)
theorem s_nil (h : ∀ σ G H, Ws K B Γ O σ G H → D.nx σ H) : DS X K B Γ O [] D := fun σ G H W => WSs.nil (h σ G H W)
/-- out of a branch -/
theorem s_out (h : DS X K B Γ O rest D0) : DS X K B Γ O [] { D0 with nx := WSs X rest D0 } := fun σ G H W => WSs.nil (h σ G H W)
theorem s_set [fam : Fam (Us X) P w K mg base k] (i : Nat) {f : Option Slot → Gm} [hg : SetG Γ i f] (h : DW (Us X) K B Γ O e ra fun x O' => DS X K B (f (some ⟨ra, x⟩)) O' rest D) (hi : X.N[i]? = some n := by rfl)
    (hx : Loc X.env.scope n := by first | exact Or.inl rfl | exact Or.inr rfl) (hs : swapsWith e (some (.Name n p)) pos.line X.env = pure false := by rfl) (hf : X.fn n = true ∨ X.env.scope.names.lookup n = some .local := by first | exact .inr rfl | exact .inl rfl) :
    DS X K B Γ O (.Assign [.Name n p] e pos :: rest) D := by
  intro σ G H W
  refine WSs.cons (ps_set (te := WE (Us X) e) (fam.nd ()) hi hx (WE.pe (F := Us X) ()) hs hf) ?_
  exact h σ G H W _ fun x O' v G' H' k W' _ r => k _ G' H' (by rw [hg.eq]; exact W'.set i r)
theorem s_if (h : DT (Us X) K B Γ O c fun b O' => (b = true → DS X K B Γ O' sa { D with nx := WSs X rest D }) ∧ (b = false → DS X K B Γ O' sb { D with nx := WSs X rest D })) : DS X K B Γ O (.If c sa sb pos :: rest) D := by
  intro σ G H W
  refine WSs.cons (ps_if (tc := WT (Us X) c) (WT.pt (F := Us X) ()) WSs.pss WSs.pss) ?_
  refine h σ G H W _ fun b O' G' H' k W' _ => ?_
  cases b with
  | true => exact k.1 rfl σ G' H' W'
  | false => exact k.2 rfl σ G' H' W'
theorem s_ret (h : DW (Us X) K B Γ O e ra fun x O' => RT K B Γ O' ra x D) : DS X K B Γ O (.Return (some e) pos :: rest) D := by
  intro σ G H W
  refine WSs.cons (ps_ret (te := WE (Us X) e) (WE.pe (F := Us X) ())) ?_
  exact h σ G H W _ fun x O' v G' H' k W' _ r => k v σ G' H' W' r
theorem s_retN (h : RT K B Γ O rNon () D) : DS X K B Γ O (.Return none pos :: rest) D := fun σ G H W => WSs.cons ps_retN (h _ σ G H W rfl)
theorem s_expr (h : DW (Us X) K B Γ O e ra fun _ O' => DS X K B Γ O' rest D) (hs : swapsWith e none pos.line X.env = pure false := by rfl) : DS X K B Γ O (.Expr e pos :: rest) D := by
  intro σ G H W
  refine WSs.cons (ps_expr (te := WE (Us X) e) (WE.pe (F := Us X) ()) hs) ?_
  exact h σ G H W _ fun x O' v G' H' k W' _ r => k _ G' H' W'
theorem s_cont (h : ∀ σ G H, Ws K B Γ O σ G H → D.ct σ H) : DS X K B Γ O (.Continue pos :: rest) D := fun σ G H W => WSs.cons ps_continue (h σ G H W)
/-! targets -/
def DG {ι : Type} (F : ι → Cx) (K : Fg) (B : Bs) (Γ : Gm) (O : List Own) (e : Expr) {α : Type} (r : Rp α) (x : α) (js : List Nat) (Φ : Gm → Prop) : Prop :=
  ∀ σ G H v, Ws K B Γ O σ G H → r.rep K G v x → ∀ Q : St → Hp → Prop, (∀ Γ' σ', Φ Γ' → Ws K B Γ' O σ' G H → (∀ vs : List Nat, (∀ j ∈ js, j ∈ vs) → wipe σ' vs = wipe σ vs) → Q σ' H) → WG F e v σ H Q
def DGs {ι : Type} (F : ι → Cx) (K : Fg) (B : Bs) (Γ : Gm) (O : List Own) (es : List Expr) {α : Type} (f : RpF α) (x : α) (js : List Nat) (Φ : Gm → Prop) : Prop :=
  ∀ σ G H vs, Ws K B Γ O σ G H → f.rep K G vs x → ∀ Q : St → Hp → Prop, (∀ Γ' σ', Φ Γ' → Ws K B Γ' O σ' G H → (∀ vs : List Nat, (∀ j ∈ js, j ∈ vs) → wipe σ' vs = wipe σ vs) → Q σ' H) → WGs F es vs σ H Q
section
variable {ι : Type} {F : ι → Cx}
theorem g_name [fam : Fam F P w K mg base k] (i : Nat) {f : Option Slot → Gm} [hg : SetG Γ i f] {x : α} {Φ : Gm → Prop} (q : Φ (f (some ⟨ra, x⟩))) (hi : ∀ j, (F j).N[i]? = some n := by intro _; rfl)
    (hx : ∀ j, Loc (F j).env.scope n := by intro _; first | exact Or.inl rfl | exact Or.inr rfl)
    (hf : ∀ j, (F j).fn n = true ∨ (F j).env.scope.names.lookup n = some .local := by intro _; first | exact .inr rfl | exact .inl rfl) : DG F K B Γ O (.Name n pos) ra x [i] Φ :=
  fun σ G H v W r Q k => ⟨_, fun j => pg_name (fam.nd j) (hi j) (hx j) (hf j), k _ _ q (by rw [hg.eq]; exact W.set i r) fun vs hv => wipe_set (hv i (by simp))⟩
theorem gs_one {js : List Nat} {x : α} {Φ : Gm → Prop} (h : DG F K B Γ O e ra x js Φ) (hs : ∀ j, (assignEach [e] (F j).env).map (·.2) = assign e (F j).env :: (assignEach [] (F j).env).map (·.2) := by intro _; rfl) : DGs F K B Γ O [e] (fOne ra) x js Φ := by
  intro σ G H vs W ⟨v, e1, r⟩ Q k
  exact ⟨_, fun j => pgs_cons (WG.pg j) pgs_nil (hs j), v, [], e1, h σ G H v W r _ fun Γ' σ' q W' hw => ⟨rfl, k Γ' σ' q W' hw⟩⟩
theorem gs_cons {js ks : List Nat} {es : List Expr} {f : RpF β} {x : α × β} {Φ : Gm → Prop} (h : DG F K B Γ O e ra x.1 js fun Γ1 => DGs F K B Γ1 O es f x.2 ks Φ)
    (hs : ∀ j, (assignEach (e :: es) (F j).env).map (·.2) = assign e (F j).env :: (assignEach es (F j).env).map (·.2) := by intro _; rfl) : DGs F K B Γ O (e :: es) (fCons ra f) x (js ++ ks) Φ := by
  intro σ G H vs W ⟨v, ws, e1, r, rf⟩ Q k
  exact ⟨_, fun j => pgs_cons (WG.pg j) (WGs.pgs j) (hs j), v, ws, e1, h σ G H v W r _ fun Γ' σ' q W' hw => q σ' G H ws W' rf Q fun Γ2 σ2 q2 W2 hw2 => k Γ2 σ2 q2 W2 fun vs hv =>
    (hw2 vs fun j hj => hv j (List.mem_append_right _ hj)).trans (hw vs fun j hj => hv j (List.mem_append_left _ hj))⟩
theorem g_tup [fam : Fam F P w K mg base k] {js : List Nat} {es : List Expr} {f : RpF α} {j m : Nat} [hl : Len f m] {x : α} {Φ : Gm → Prop} (h : DGs F K B Γ O es f x js Φ)
    (hn : ∀ j, (assignEach es (F j).env).length = m := by intro _; rfl) (hst : ∀ j, (assignEach es (F j).env).findIdx? (·.1) = none := by intro _; rfl) : DG F K B Γ O (.Tuple es j pos) (rTup f) x js Φ := by
  intro σ G H v W ⟨a, vs, e1, h1, h2⟩ Q q
  refine ⟨gTup K m (WGs F es), fun i => ?_, a, vs, e1, ex_t W.sub h1, hl.len h2, h σ G H vs W h2 Q q⟩
  have p := pg_tup (X := F i) (pos := pos) (k := j) (fam.cm i) (WGs.pgs i) (hn i) (hst i)
  rw [fam.ka i] at p
  exact p
end
/-- target = e -/
theorem s_asg {tg : Expr} {js : List Nat} (h : DW (Us X) K B Γ O e ra fun x O' => DG (Us X) K B Γ O' tg ra x js fun Γ' => DS X K B Γ' O' rest D) (hs : swapsWithSole [tg] e pos.line X.env = pure false := by rfl) (hw : swappedStores [tg] e X.env = pure none := by rfl)
    (h1 : (assignEach [tg] X.env).map (·.2) = [assign tg X.env] := by rfl) : DS X K B Γ O (.Assign [tg] e pos :: rest) D := by
  intro σ G H W
  refine WSs.cons (ps_asg (te := WE (Us X) e) (g := WG (Us X) tg) (WE.pe (F := Us X) ()) (WG.pg (F := Us X) ()) hs hw h1) ?_
  exact h σ G H W _ fun x O' v G' H' k W' _ r => k σ G' H' v W' r _ fun Γ' σ' q W2 _ => q σ' G' H' W2
/-- name op= e -/
theorem s_aug [fam : Fam (Us X) P w K mg base k] (i : Nat) {f : Int → Int → Int} {op : Operator} {x : Int} {fg : Option Slot → Gm} [hA : At Γ i rInt x] [hg : SetG Γ i fg] (ho : PIp X op (ipI f)) (h : DW (Us X) K B Γ O e rInt fun y O' => DS X K B (fg (some ⟨rInt, f x y⟩)) O' rest D)
    (hi : X.N[i]? = some n := by rfl) (hx : Loc X.env.scope n := by first | exact Or.inl rfl | exact Or.inr rfl) (hf : X.fn n = true ∨ X.env.scope.names.lookup n = some .local := by first | exact .inr rfl | exact .inl rfl) :
    DS X K B Γ O (.AugAssign (.Name n p) op e pos :: rest) D := by
  intro σ G H W
  obtain ⟨u, h1, h2⟩ := W.env.get hA.get
  refine WSs.cons (ps_aug (te := WE (Us X) e) (fam.nd ()) hi hx (WE.pe (F := Us X) ()) ho hf) ?_
  refine ⟨u, h1, h σ G H W _ fun y O' v G' H' k W' e' r => ⟨x, y, h2, r, k _ G' H' (by rw [hg.eq]; exact W'.set i rfl)⟩⟩
end
/-! ### what is walked -/
/-- the walked thing J gives the items xs, one by one, wherever Gb stands -/
structure Gives (K : Fg) (T : List Addr) (Gb : Hp) (J : It) {α : Type} (r : Rp α) (xs : List α) : Prop where
  go : ∀ i G H, i < xs.length → Ex Gb G → Ex G H → J.go i H
  stop : ∀ G H, Ex Gb G → Ex G H → J.stop xs.length H
  yld : ∀ i G H v H', i < xs.length → Ex Gb G → Ex G H → J.yld i H v H' → ∃ x G', xs[i]? = some x ∧ Stp T [] G H G' H' ∧ r.rep K G' v x
def DI {ι : Type} (F : ι → Cx) (K : Fg) (B : Bs) (Γ : Gm) (O : List Own) (tg e : Expr) {α : Type} (r : Rp α) (Φ : List α → List Own → Prop) : Prop :=
  ∀ σ G H, Ws K B Γ O σ G H → ∀ R : It → Hp → Prop, (∀ xs J O' G' H', Φ xs O' → Gives K B.T G' J r xs → Ws K B Γ O' σ G' H' → Ex G G' → R J H') → WI F tg e σ H R
section
variable {ι : Type} {F : ι → Cx} {K : Fg} {B : Bs} {Γ : Gm} {O : List Own} {α β γ : Type} {ra : Rp α} {rb : Rp β} {e a b tg : Expr} {n : Str} {p pos : Pos}
variable {P : Program} {w : World} {mg : Str → Option Value} {base : Heap} {k : Nat}
theorem Gives.list {T : List Addr} {Gb : Hp} {c : Addr} {vs : List V} {xs : List α} (h : SqL K Gb c vs) (r : All2 (ra.rep K Gb) vs xs) : Gives K T Gb (Itl K c) ra xs where
  go := fun i G H hi e1 e2 => by
    have hv : i < vs.length := by rw [r.length]; exact hi
    exact ⟨vs, vs[i], ex_l (e1.trans e2) h, List.getElem?_eq_getElem hv⟩
  stop := fun G H e1 e2 => ⟨vs, ex_l (e1.trans e2) h, by rw [r.length]; exact Nat.le_refl _⟩
  yld := fun i G H v H' hi e1 e2 ⟨h1, h2⟩ => by
    obtain ⟨x, hx, hr⟩ := r.get (h2 vs (ex_l (e1.trans e2) h))
    subst h1
    exact ⟨x, G, hx, Stp.refl e2, ra.mono e1 hr⟩
theorem Gives.tup {T : List Addr} {Gb : Hp} {c : Addr} {vs : List V} {xs : List α} (h : SqT K Gb c vs) (r : All2 (ra.rep K Gb) vs xs) : Gives K T Gb (Itt K c) ra xs where
  go := fun i G H hi e1 e2 => by
    have hv : i < vs.length := by rw [r.length]; exact hi
    exact ⟨vs, vs[i], ex_t (e1.trans e2) h, List.getElem?_eq_getElem hv⟩
  stop := fun G H e1 e2 => ⟨vs, ex_t (e1.trans e2) h, by rw [r.length]; exact Nat.le_refl _⟩
  yld := fun i G H v H' hi e1 e2 ⟨h1, h2⟩ => by
    obtain ⟨x, hx, hr⟩ := r.get (h2 vs (ex_t (e1.trans e2) h))
    subst h1
    exact ⟨x, G, hx, Stp.refl e2, ra.mono e1 hr⟩
/-- lo, lo + c, .. -/
def rgI (lo c : Int) (m : Nat) : List Int := (List.range m).map fun i : Nat => lo + (i : Int) * c
theorem rgI_len (lo c : Int) (m : Nat) : (rgI lo c m).length = m := by unfold rgI; rw [List.length_map, List.length_range]
theorem rgI_get {lo c : Int} {m i : Nat} (h : i < m) : (rgI lo c m)[i]? = some (lo + (i : Int) * c) := by
  unfold rgI
  rw [List.getElem?_map, List.getElem?_range h]
  rfl
theorem Gives.rng {T : List Addr} {Gb : Hp} (lo : Int) (m : Nat) : Gives K T Gb (Itr lo m) rInt (rgI lo 1 m) where
  go := fun i G H hi e1 e2 => by rw [rgI_len] at hi; exact hi
  stop := fun G H e1 e2 => by rw [rgI_len]; exact Nat.le_refl _
  yld := fun i G H v H' hi e1 e2 ⟨h1, h2⟩ => by
    rw [rgI_len] at hi
    subst h1
    exact ⟨_, G, rgI_get hi, Stp.refl e2, by rw [h2, Int.mul_one]; rfl⟩
theorem w_lst [fam : Fam F P w K mg base k] {Φ : List α → List Own → Prop} (h : DW F K B Γ O e (rLst ra) Φ) : DI F K B Γ O tg e ra Φ := by
  intro σ G H W R q
  refine ⟨iList K (WE F e), fun i => by rw [← fam.ka i]; exact pi_list (WE.pe i), ?_⟩
  exact h σ G H W _ fun xs O' v G' H' k W' e' ⟨c, vs, h1, h2, h3⟩ => ⟨c, h1, ⟨vs, SqL.of (W'.sub _ _ h2)⟩, q xs _ O' G' H' k (Gives.list (SqL.of h2) h3) W' e'⟩
theorem w_seq [fam : Fam F P w K mg base k] {Φ : List α → List Own → Prop} (h : DW F K B Γ O e (rSeq ra) Φ) : DI F K B Γ O tg e ra Φ := by
  intro σ G H W R q
  refine ⟨iList K (WE F e), fun i => by rw [← fam.ka i]; exact pi_list (WE.pe i), ?_⟩
  exact h σ G H W _ fun xs O' v G' H' k W' e' ⟨c, vs, h1, h2, h3⟩ => ⟨c, h1, ⟨vs, ex_l W'.sub h2⟩, q xs _ O' G' H' k (Gives.list h2 h3) W' e'⟩
theorem w_tpv [fam : Fam F P w K mg base k] {Φ : List α → List Own → Prop} (h : DW F K B Γ O e (rTpv ra) Φ) : DI F K B Γ O tg e ra Φ := by
  intro σ G H W R q
  refine ⟨iTup K (WE F e), fun i => by rw [← fam.ka i]; exact pi_tup (WE.pe i), ?_⟩
  exact h σ G H W _ fun xs O' v G' H' k W' e' ⟨c, vs, h1, h2, h3⟩ => ⟨c, h1, ⟨vs, ex_t W'.sub h2⟩, q xs _ O' G' H' k (Gives.tup h2 h3) W' e'⟩
theorem w_rng1 [fam : Fam F P w K mg base k] {Φ : List Int → List Own → Prop} (hm : mg "range" = none) (h : DW F K B Γ O a rInt fun j O1 => (-(2 ^ 62) ≤ j ∧ j < 2 ^ 62) ∧ Φ (rgI 0 1 j.toNat) O1)
    (hg : ∀ i, Gl (F i) "range" := by intro _; rfl) (hs : ∀ i, starEach [a] (F i).env = [(false, eval a (F i).env)] := by intro _; rfl) : DI F K B Γ O tg (.Call (.Name "range" p) [a] [] pos) rInt Φ := by
  intro σ G H W R q
  refine ⟨iRng1 (tCons (WE F a) tNil), fun i => pi_range1 (hg i) (by rw [fam.mg i]; exact hm) (pa_cons (WE.pe i) pa_nil (hs i)) (hs i), ?_⟩
  refine h σ G H W _ fun j O' v G' H' k W' e' r => ⟨j, by rw [show v = V.int j from r], k.1.1, k.1.2, q _ _ O' G' H' k.2 (Gives.rng 0 j.toNat) W' e'⟩
theorem w_rng2 [fam : Fam F P w K mg base k] {Φ : List Int → List Own → Prop} (hm : mg "range" = none) (h : DW F K B Γ O a rInt fun i O1 => DW F K B Γ O1 b rInt fun j O2 => (-(2 ^ 62) ≤ i ∧ i < 2 ^ 62 ∧ -(2 ^ 62) ≤ j ∧ j < 2 ^ 62) ∧ Φ (rgI i 1 (j - i).toNat) O2)
    (hg : ∀ i, Gl (F i) "range" := by intro _; rfl) (hs : ∀ i, starEach [a, b] (F i).env = [(false, eval a (F i).env), (false, eval b (F i).env)] := by intro _; rfl) (hs2 : ∀ i, starEach [b] (F i).env = [(false, eval b (F i).env)] := by intro _; rfl) :
    DI F K B Γ O tg (.Call (.Name "range" p) [a, b] [] pos) rInt Φ := by
  intro σ G H W R q
  refine ⟨iRng2 (tCons (WE F a) (tCons (WE F b) tNil)), fun i => pi_range2 (hg i) (by rw [fam.mg i]; exact hm) (pa_cons (WE.pe i) (pa_cons (WE.pe i) pa_nil (hs2 i)) ?_) (hs i) (hs2 i), ?_⟩
  · rw [hs i, hs2 i]
  · refine h σ G H W _ fun i O1 v G1 H1 k1 W1 e1 r1 => ?_
    exact k1 σ G1 H1 W1 _ fun j O' u G' H' k W' e' r => ⟨i, j, by rw [show u = V.int j from r, show v = V.int i from r1], k.1, q _ _ O' G' H' k.2 (Gives.rng i (j - i).toNat) W' (e1.trans e')⟩
end
/-! ### loops -/
section
variable {X : Cx} {K : Fg} {B : Bs} {Γ Γ' : Gm} {O O' : List Own} {α β : Type} {ra : Rp α} {D D0 : Ends} {e c tg iter : Expr} {rest body : List Stmt} {n : Str} {pos p : Pos}
variable {P : Program} {w : World} {mg : Str → Option Value} {base : Heap} {k : Nat}
/-- one more heap that stays told -/
abbrev Bs.push (B : Bs) (g : Hp) : Bs := { B with bs := g :: B.bs }
/-- what holds between two turns: d with P -/
def LpJ (K : Fg) (B : Bs) {δ : Type} (Pv : δ → Prop) (Γf : δ → Gm) (Of : δ → List Own) : St → Hp → Prop := fun σ H => ∃ d G, Pv d ∧ Ws K B (Γf d) (Of d) σ G H
def LpE (X : Cx) (K : Fg) (B : Bs) {δ : Type} (Pv : δ → Prop) (Γf : δ → Gm) (Of : δ → List Own) (rest : List Stmt) (D : Ends) : Ends :=
  { nx := LpJ K B Pv Γf Of, rt := D.rt, bk := WSs X rest D, ct := LpJ K B Pv Γf Of }
/-- the end of a turn -/
theorem s_next {δ : Type} {Pv : δ → Prop} {Γf : δ → Gm} {Of : δ → List Own} (d : δ) (h : Pv d) (hw : Wk Γ (Γf d)) (ho : O = Of d) : DS X K B Γ O [] (LpE X K B Pv Γf Of rest D) :=
  s_nil fun σ G H W => ⟨d, G, h, by rw [← ho]; exact W.wk hw⟩
theorem s_for [fam : Fam (Us X) P w K mg base k] {js : List Nat}
    (h : DI (Us X) K B Γ O tg iter ra fun xs O1 => ∃ (δ : Type) (Pv : Nat → δ → Prop) (Γf : δ → Gm) (Of : δ → List Own), (∃ d, Pv 0 d ∧ Wk Γ (Γf d) ∧ O1 = Of d) ∧
      (∀ g i x d, xs[i]? = some x → Pv i d → DG (Us X) K (B.push g) (Γf d) (Of d) tg ra x js fun Γ' => DS X K (B.push g) Γ' (Of d) body (LpE X K (B.push g) (Pv (i + 1)) Γf Of rest D)) ∧
      (∀ d, Pv xs.length d → DS X K B (Γf d) (Of d) rest D))
    (hp : PassesOwn (model X.prog X.w) X.A X.env X.xe := by first | exact PassesOwn.never | assumption) (hs : ∀ x, foldedSetIterable iter X.env x = pure x := by intro _; rfl) : DS X K B Γ O (.For tg iter body [] pos :: rest) D := by
  intro σ G H W
  refine WSs.cons (ps_for hp (fam.cm ()) (WI.pi (F := Us X) ()) (WG.pg (F := Us X) ()) (WSs.pss (X := X)) hs) ?_
  refine h σ G H W _ fun xs J O1 G1 H1 ⟨δ, Pv, Γf, Of, ⟨d0, p0, w0, o0⟩, hst, hd⟩ gv W1 _ => ?_
  refine ⟨fun i m σ H => m = xs.length - i ∧ i ≤ xs.length ∧ LpJ K (B.push G1) (Pv i) Γf Of σ H, ⟨xs.length, by simp, Nat.zero_le _, d0, G1, p0, ?_⟩, ?_⟩
  · rw [← o0]
    exact (W1.wk w0).base
  rintro i m σ2 H2 ⟨rfl, hi, d, G2, pd, W2⟩
  have eb : Ex G1 G2 := W2.bs G1 List.mem_cons_self
  by_cases hlt : i < xs.length
  · refine .inr ⟨gv.go i G2 H2 hlt eb W2.sub, LpJ K (B.push G1) (Pv (i + 1)) Γf Of, fun σ' H' j => ⟨xs.length - (i + 1), by omega, rfl, hlt, j⟩, fun v H3 y => ?_⟩
    obtain ⟨x, G3, hx, s3, r3⟩ := gv.yld i G2 H2 v H3 hlt eb W2.sub y
    exact hst G1 i x d hx pd σ2 G3 H3 v (W2.step s3) r3 _ fun Γ' σ' q W' _ => q σ' G3 H3 W'
  · obtain rfl : i = xs.length := by omega
    exact .inl ⟨gv.stop G2 H2 eb W2.sub, hd d pd σ2 G2 H2 W2.unbase⟩
theorem s_while {δ : Type} (Pv : δ → Prop) (μ : δ → Nat) (Γf : δ → Gm) (Of : δ → List Own) (d0 : δ) (p0 : Pv d0) (w0 : Wk Γ (Γf d0)) (o0 : O = Of d0)
    (h : ∀ d, Pv d → DT (Us X) K B (Γf d) (Of d) c fun b O' => (b = true → DS X K B (Γf d) O' body (LpE X K B (fun d' => Pv d' ∧ μ d' < μ d) Γf Of rest D)) ∧ (b = false → DS X K B (Γf d) O' rest D))
    (hp : PassesOwn (model X.prog X.w) X.A X.env X.xe := by first | exact PassesOwn.never | assumption) : DS X K B Γ O (.While c body [] pos :: rest) D := by
  intro σ G H W
  refine WSs.cons (ps_while hp (WT.pt (F := Us X) ()) (WSs.pss (X := X))) ?_
  refine ⟨fun m σ H => ∃ d G, m = μ d ∧ Pv d ∧ Ws K B (Γf d) (Of d) σ G H, ⟨μ d0, d0, G, rfl, p0, by rw [← o0]; exact W.wk w0⟩, ?_⟩
  rintro m σ2 H2 ⟨d, G2, rfl, pd, W2⟩
  refine h d pd σ2 G2 H2 W2 _ fun b O' G' H' k W' _ => ?_
  cases b with
  | true =>
    refine iteT ⟨LpJ K B (fun d' => Pv d' ∧ μ d' < μ d) Γf Of, fun σ' H' ⟨d', G', ⟨p', l⟩, W'⟩ => ⟨μ d', l, d', G', rfl, p', W'⟩, ?_⟩
    exact k.1 rfl σ2 G' H' W'
  | false => exact iteF (k.2 rfl σ2 G' H' W')
end
end Sk
set_option Elab.async false
set_option linter.all false
set_option maxRecDepth 100000
set_option maxHeartbeats 4100000
/-! Sk4: own objects that change, comprehensions, promises of defs, dicts by written keys. -/
namespace Sk
open PySem L2 Evl
/-! ### own objects -/
section
variable {K : Fg} {B : Bs} {Γ Γ' : Gm} {O O' : List Own} {σ : St} {G H G' H' : Hp}
theorem nd_idx {α : Type} {l : List α} (hN : l.Nodup) {i j : Nat} {x : α} (a : l[i]? = some x) (b : l[j]? = some x) : i = j := L2.nd_ix hN a b
/-- the j-th own object changes -/
theorem Ws.mutAt {α β : Type} {j : Nat} {p : Addr} {o : HO} {r : Ow α} {x : α} {r' : Ow β} {x' : β} (W : Ws K B Γ O σ G H) (hj : O[j]? = some ⟨p, r, x⟩) (h : r'.rep K G o x') : Ws K B Γ (O.set j ⟨p, r', x'⟩) σ G (upd H p o) := by
  obtain ⟨_, h3, h4, h5⟩ := W.own _ (List.mem_of_getElem? hj)
  have hl : j < O.length := (List.getElem?_eq_some_iff.mp hj).1
  have s : Stp B.T [p] G H G (upd H p o) := Stp.mut W.sub h3 h4
  have em : (O.set j ⟨p, r', x'⟩).map (·.a) = O.map (·.a) := by
    refine List.ext_getElem? fun i => ?_
    rw [List.getElem?_map (l := O.set j _), List.getElem?_map (l := O)]
    by_cases hi : j = i
    · subst hi
      rw [List.getElem?_set_self hl, hj]
      rfl
    · rw [List.getElem?_set_ne hi]
  refine ⟨W.st.trans s fun c hc => ?_, fun P hP => ⟨s.tab P hP (W.tab P hP).1, (W.tab P hP).2⟩, W.bs, W.env, fun w hw => ?_, by rw [em]; exact W.nd, W.mh⟩
  · have e : c = p := by simpa using hc
    subst e
    exact h5.symm
  · obtain ⟨i, hi⟩ := List.getElem?_of_mem hw
    by_cases hij : j = i
    · subst hij
      rw [List.getElem?_set_self hl] at hi
      have e := Option.some.inj hi
      subst e
      exact ⟨⟨o, upd_same, h⟩, h3, h4, h5⟩
    · rw [List.getElem?_set_ne hij] at hi
      obtain ⟨⟨u, g1, g2⟩, g3, g4, g5⟩ := W.own w (List.mem_of_getElem? hi)
      have ne : w.a ≠ p := fun e => hij (nd_idx W.nd (by rw [List.getElem?_map, hj]; rfl) (by rw [List.getElem?_map, hi, ← e]; rfl))
      exact ⟨⟨u, by rw [upd_ne ne]; exact g1, g2⟩, g3, g4, g5⟩
/-- where an own object stands among the others -/
class OwnAt (O : List Own) (p : Addr) {α : outParam Type} (r : outParam (Ow α)) (x : outParam α) (f : outParam (Own → List Own)) : Prop where
  at_ : ∃ j, O[j]? = some ⟨p, r, x⟩ ∧ ∀ w, f w = O.set j w
instance (priority := high) ownAt0 {O : List Own} {p : Addr} {α : Type} {r : Ow α} {x : α} : OwnAt (⟨p, r, x⟩ :: O) p r x (fun w => w :: O) := ⟨⟨0, rfl, fun _ => rfl⟩⟩
instance ownAtS {O : List Own} {v : Own} {p : Addr} {α : Type} {r : Ow α} {x : α} {f : Own → List Own} [h : OwnAt O p r x f] : OwnAt (v :: O) p r x (fun w => v :: f w) := ⟨by
  obtain ⟨j, h1, h2⟩ := h.at_
  exact ⟨j + 1, h1, fun w => by rw [h2]; rfl⟩⟩
theorem Ws.mutO {α β : Type} {p : Addr} {o : HO} {r : Ow α} {x : α} {r' : Ow β} {x' : β} {f : Own → List Own} [h : OwnAt O p r x f] (W : Ws K B Γ O σ G H) (hr : r'.rep K G o x') : Ws K B Γ (f ⟨p, r', x'⟩) σ G (upd H p o) := by
  obtain ⟨j, h1, h2⟩ := h.at_
  rw [h2]
  exact W.mutAt h1 hr
theorem Ws.ownO {α : Type} {p : Addr} {r : Ow α} {x : α} {f : Own → List Own} (h : OwnAt O p r x f) (W : Ws K B Γ O σ G H) : ∃ o, H p = some o ∧ r.rep K G o x := by
  obtain ⟨j, h1, h2⟩ := h.at_
  exact (W.own _ (List.mem_of_getElem? h1)).ob
/-- from here on it will not change -/
theorem Ws.frz {α : Type} {p : Addr} {r : Ow α} {x : α} (W : Ws K B Γ (⟨p, r, x⟩ :: O) σ G H) (hM : p ∉ B.M) : ∃ o, r.rep K G o x ∧ Ws K B Γ O σ (upd G p o) H ∧ Ex G (upd G p o) := by
  obtain ⟨⟨o, h1, h2⟩, h3, h4, h5⟩ := W.own _ List.mem_cons_self
  have h0 : B.H0 p = none := h5.resolve_right hM
  have e1 : Ex G (upd G p o) := Ex.new h3
  refine ⟨o, h2, ⟨⟨fun a u e => ?_, W.st.g.trans e1, W.st.h, W.st.th, fun a q q2 => ?_, W.st.tab⟩, fun P hP => ⟨(W.tab P hP).1, ?_⟩, fun g hg => (W.bs g hg).trans e1, W.env.mono e1, fun w hw => ?_, (List.nodup_cons.mp W.nd).2, W.mh⟩, e1⟩
  · by_cases q : a = p
    · subst q
      rw [upd_same] at e
      rw [← e]
      exact h1
    · rw [upd_ne q] at e
      exact W.sub a u e
  · by_cases q3 : a = p
    · rw [q3]
      exact h0
    · rw [upd_ne q3] at q2
      exact W.st.fr a q q2
  · rw [upd_ne (show P ≠ p from fun z => h4 (by rw [← z]; exact hP))]
    exact (W.tab P hP).2
  · obtain ⟨⟨u, g1, g2⟩, g3, g4, g5⟩ := W.own w (List.mem_cons_of_mem _ hw)
    have ne : w.a ≠ p := fun e => (List.nodup_cons.mp W.nd).1 (List.mem_map.mpr ⟨w, hw, e⟩)
    exact ⟨⟨u, g1, w.r.mono e1 g2⟩, by rw [upd_ne ne]; exact g3, g4, g5⟩
end
section
variable {ι : Type} {F : ι → Cx} {K : Fg} {B : Bs} {Γ : Gm} {O : List Own} {α β γ : Type} {ra : Rp α} {rb : Rp β} {e a b tg o : Expr} {es : List Expr} {n : Str} {p pos apos : Pos}
variable {P : Program} {w : World} {mg : Str → Option Value} {base : Heap} {k : Nat}
theorem c_sumL {xs : List Int} {Φ : Int → List Own → Prop} (k : Φ xs.sum O) (hK : ∀ j, (F j).K = K := by intro _; rfl) (hc : ∀ j, (F j).calm = true := by intro _; rfl) :
    CW F K B Γ O (.builtin "sum") (fOne (rLst rInt)) xs rInt Φ :=
  fun σ G H vs W ⟨v, e, a, ws, h1, h2, h3⟩ Q q' => by
    have e2 := All2.map_int h3
    exact ⟨rSum K, fun j => by rw [← hK j]; exact cr_sum (hc j), a, xs, by rw [e, h1], SqL.of (W.sub _ _ (by rw [← e2]; exact h2)), q' _ O _ G H k W (Ex.refl _) rfl⟩
/-- a method of an own list, of a list: what it asks of values -/
def MW (F : ι → Cx) (K : Fg) (B : Bs) (Γ : Gm) (O : List Own) (r : V → List V → Hp → VK → Prop) (ra : Rp α) (x : α) (f : RpF β) (y : β) (rc : Rp γ) (Φ : γ → List Own → Prop) : Prop :=
  ∀ σ G H v vs, Ws K B Γ O σ G H → ra.rep K G v x → f.rep K G vs y → ∀ Q : VK, (∀ z O' u G' H', Φ z O' → Ws K B Γ O' σ G' H' → Ex G G' → rc.rep K G' u z → Q u H') → r v vs H Q
theorem d_bm [fam : Fam F P w K mg base k] {T id : String} {name : Str} {r : V → List V → Hp → VK → Prop} {f : RpF β} {Φ : γ → List Own → Prop} (pa : PlainAttrs T) (slot : PySem.Slot T name id) (hty : typeOf (.builtin id) = pure (.type "method_descriptor")) (hm : ∀ j, MtR (F j) id r)
    (h : DW F K B Γ O o ra fun x O1 => (∀ σ G H v, Ws K B Γ O1 σ G H → ra.rep K G v x → tyV K T v H) ∧ DA F K B Γ O1 (e :: es) f fun y O2 => MW F K B Γ O2 r ra x f y rc Φ)
    (hbase : ∀ j, attributeBase o name (F j).env (eval o (F j).env) = eval o (F j).env := by intro _; rfl)
    (hfew : ∀ j, ((backTo pos (starEach (e :: es) (F j).env)).all (fun x => !x.1) && (backToKw pos (keywordEach [] (F j).env)).all (fun x => x.1.isSome)
      && decide ((e :: es).length + ([] : List Keyword).length + (if ([] : List Keyword).isEmpty then 0 else 1) < 30)) = true := by intro _; rfl)
    (hline : (apos.endLine == pos.line) = true := by rfl) (hs : ∀ j, starEach (e :: es) (F j).env = (false, eval e (F j).env) :: starEach es (F j).env := by intro _; rfl)
    (hpl : ∀ j, (backTo pos (starEach es (F j).env)).any (·.1) = false := by intro _; rfl) :
    DW F K B Γ O (.Call (.Attribute o name apos) (e :: es) [] pos) rc Φ := by
  intro σ G H W Q q
  refine ⟨tBM K T r (WE F o) (WA F (e :: es)), fun j => ?_, ?_⟩
  · have p := pe_bm (X := F j) pa slot hty (hm j) (WE.pe j) (WA.pa j) (hbase j) (hfew j) hline (hs j) (hpl j)
    rw [fam.ka j] at p
    exact p
  · refine h σ G H W _ fun x O1 v G1 H1 ⟨hT, k1⟩ W1 e1 r1 => ⟨hT σ G1 H1 v W1 r1, ?_⟩
    exact k1 σ G1 H1 W1 _ fun y O2 vs G2 H2 k2 W2 e2 r2 => k2 σ G2 H2 v vs W2 (ra.mono e2 r1) r2 Q fun z O' u G' H' kk W' e' r' => q z O' u G' H' kk W' ((e1.trans e2).trans e') r'
theorem tyO {O1 : List Own} {q : Addr} {xs : List α} {f : Own → List Own} (h : OwnAt O1 q (oLst ra) xs f) : ∀ σ G H v, Ws K B Γ O1 σ G H → rAdr.rep K G v q → tyV K "list" v H := fun σ G H v W r => by
  obtain ⟨u, h2, ws, h3, _⟩ := W.ownO h
  subst h3
  rw [show v = V.ref q from r]
  exact .inl ⟨rfl, ws, SqL.of h2⟩
/-- xs.append(e), an own list -/
theorem d_app [fam : Fam F P w K mg base k] {Φ : Unit → List Own → Prop} (h : DW F K B Γ O o rAdr fun q O1 => ∃ xs1 f1, OwnAt O1 q (oLst ra) xs1 f1 ∧ DW F K B Γ O1 e ra fun y O2 => ∃ xs f, OwnAt O2 q (oLst ra) xs f ∧ xs.length < sizeLine ∧ Φ () (f ⟨q, oLst ra, xs ++ [y]⟩))
    (hbase : ∀ j, attributeBase o "append" (F j).env (eval o (F j).env) = eval o (F j).env := by intro _; rfl)
    (hfew : ∀ j, ((backTo pos (starEach [e] (F j).env)).all (fun x => !x.1) && (backToKw pos (keywordEach [] (F j).env)).all (fun x => x.1.isSome)
      && decide ([e].length + ([] : List Keyword).length + (if ([] : List Keyword).isEmpty then 0 else 1) < 30)) = true := by intro _; rfl)
    (hline : (apos.endLine == pos.line) = true := by rfl) (hs : ∀ j, starEach [e] (F j).env = (false, eval e (F j).env) :: starEach [] (F j).env := by intro _; rfl) :
    DW F K B Γ O (.Call (.Attribute o "append" apos) [e] [] pos) rNon Φ := by
  refine d_bm (ra := rAdr) (f := fOne ra) PySem.F.plainAttrs_list PySem.F.slot_list_append PySem.F.type_list_append (fun j => mt_append) ?_ hbase hfew hline hs (fun _ => rfl)
  refine d_mono h fun q O1 ⟨xs1, f1, hO1, h1⟩ => ⟨tyO hO1, da_one (d_mono h1 fun y O2 ⟨xs, f, hO, hl, kk⟩ => ?_) hs⟩
  intro σ G H v vs W rv ⟨u, e1, ru⟩ Q q'
  obtain ⟨ob, h2, ws, h3, h4⟩ := W.ownO hO
  subst h3
  refine ⟨q, ws, u, rv, e1, h2, by rw [h4.length]; exact hl, q' () _ .non G _ kk ?_ (Ex.refl _) rfl⟩
  exact W.mutO (h := hO) (r' := oLst ra) (x' := xs ++ [y]) ⟨ws ++ [u], rfl, h4.append ⟨ru, trivial⟩⟩
end
/-! ### comprehensions -/
section
variable {ι : Type} {F : ι → Cx} {K : Fg} {B : Bs} {Γ : Gm} {O : List Own} {α β γ : Type} {ra : Rp α} {rb : Rp β} {e a b tg elt iter : Expr} {ifs : List Expr} {n : Str} {p pos : Pos} {scope : Scope}
variable {P : Program} {w : World} {mg : Str → Option Value} {base : Heap} {k : Nat}
theorem wipe_wipe {σ : St} {vs : List Nat} : wipe (wipe σ vs) vs = wipe σ vs := List.ext_getElem? fun j => by
  rw [wipe_at, wipe_at]
  by_cases hj : j ∈ vs
  · rw [if_pos hj, if_pos hj, wipe_length]
  · rw [if_neg hj, if_neg hj]
/-- the contexts of a comprehension's block -/
abbrev blkF {ι : Type} (F : ι → Cx) (scope : Scope) : ι × Shared × Hp × Addr × List (Str × Addr) × List Addr → Cx := fun j => (F j.1).blk j.2.1 j.2.2.1 scope (compEnvC scope j.2.2.2.2.1 j.2.2.2.1 (F j.1).env) j.2.2.2.2.2
instance famBlk [fam : Fam F P w K mg base k] : Fam (blkF F scope) P w K mg base k :=
  ⟨fun j => fam.pr j.1, fun j => fam.wd j.1, fun j => fam.ka j.1, fun j => fam.mg j.1, fun j => fam.bs j.1, fun j => fam.rm j.1, fun j => fam.cm j.1, fun j => fam.nd j.1⟩
theorem EnvR.dropAt {K : Fg} {G : Hp} : ∀ {σ : St} {Γ : Gm} (i : Nat), EnvR K G σ Γ → EnvR K G (σ.set i none) (Γ.set i none)
  | [], [], _, _ => trivial
  | v :: σ, none :: Γ, 0, h => (show EnvR K G σ Γ from h)
  | v :: σ, some s' :: Γ, 0, ⟨_, h⟩ => (show EnvR K G σ Γ from h)
  | v :: σ, none :: Γ, i + 1, h => EnvR.dropAt (σ := σ) (Γ := Γ) i h
  | v :: σ, some s' :: Γ, i + 1, ⟨a, h⟩ => ⟨a, EnvR.dropAt i h⟩
  | [], _ :: _, _, h => h.elim
  | _ :: _, [], _, h => h.elim
/-- the env with some slots forgotten -/
class WipeG (Γ : Gm) (vs : List Nat) (Γ' : outParam Gm) : Prop where
  env : ∀ {K : Fg} {G : Hp} {σ : St}, EnvR K G σ Γ → EnvR K G (wipe σ vs) Γ'
instance wipeNil {Γ : Gm} : WipeG Γ [] Γ := ⟨fun h => h⟩
instance wipeCons {Γ Γ' : Gm} {v : Nat} {vs : List Nat} {f : Option Slot → Gm} [h : WipeG Γ vs Γ'] [g : SetG Γ' v f] : WipeG Γ (v :: vs) (f none) := ⟨fun q => by
  rw [g.eq]
  exact (h.env q).dropAt v⟩
theorem Ws.env' {K : Fg} {B : Bs} {Γ Γ' : Gm} {O : List Own} {σ σ' : St} {G H : Hp} (W : Ws K B Γ O σ G H) (h : EnvR K G σ' Γ') : Ws K B Γ' O σ' G H := ⟨W.st, W.tab, W.bs, h, W.own, W.nd, W.mh⟩
theorem dts_nil {Φ : Bool → List Own → Prop} (h : Φ true O) : DTs F K B Γ O [] Φ := fun σ G H W Q q => ⟨_, fun _ => pts_nil, q true O G H h W (Ex.refl _)⟩
theorem dts_one {Φ : Bool → List Own → Prop} (h : DT F K B Γ O e Φ) : DTs F K B Γ O [e] Φ := fun σ G H W Q q => ⟨_, fun i => pts_one (WT.pt i), h σ G H W Q q⟩
/-- [elt for tg in iter if ..]: a list of one's own; behind i items ys is made and d holds -/
theorem d_lcO [fam : Fam F P w K mg base k] (own : List (Str × Nat)) (vs : List Nat) (ok : ∀ i, BlkOk (F i).N (F i).env.scope scope own) {Γ' : Gm} [hw : WipeG Γ vs Γ'] {js : List Nat} {Φ : Addr → List Own → Prop}
    (h : DI F K B Γ O tg iter ra fun xs O1 => ∃ (δ : Type) (Pv : Nat → List β → δ → Prop) (Of : δ → List Own), (∃ d, Pv 0 [] d ∧ O1 = Of d) ∧
      (∀ g D i x ys d, xs[i]? = some x → Pv i ys d → DG (blkF F scope) K (B.push g) Γ' (⟨D, oLst rb, ys⟩ :: Of d) tg ra x js fun Γ2 => DTs (blkF F scope) K (B.push g) Γ2 (⟨D, oLst rb, ys⟩ :: Of d) ifs fun t O2 =>
        (t = true → DW (blkF F scope) K (B.push g) Γ2 O2 elt rb fun y O3 => ∃ d', O3 = ⟨D, oLst rb, ys⟩ :: Of d' ∧ ys.length < sizeLine ∧ Pv (i + 1) (ys ++ [y]) d') ∧ (t = false → ∃ d', O2 = ⟨D, oLst rb, ys⟩ :: Of d' ∧ Pv (i + 1) ys d')) ∧
      (∀ D ys d, D ∉ B.M → Pv xs.length ys d → Φ D (⟨D, oLst rb, ys⟩ :: Of d)))
    (hv : own.map (·.2) = vs := by rfl) (hjs : ∀ j ∈ js, j ∈ vs := by decide) (hs : ∀ i x, foldedSetIterable iter (F i).env x = pure x := by intro _ _; rfl) :
    DW F K B Γ O (.ListComp elt [⟨tg, iter, ifs, 0⟩] scope pos) rAdr Φ := by
  intro σ G H W Q q
  refine ⟨tLc (WI F tg iter) (WG (blkF F scope) tg) (WTs (blkF F scope) ifs) (WE (blkF F scope) elt) (own.map (·.2)), fun i => pe_lc (fam.cm i) (fam.nd i) (WI.pi i) (ok i) (fun s H C cl fp => WG.pg (F := blkF F scope) (i, s, H, C, cl, fp))
    (fun s H C cl fp => WTs.pts (F := blkF F scope) (i, s, H, C, cl, fp)) (fun s H C cl fp => WE.pe (F := blkF F scope) (i, s, H, C, cl, fp)) (hs i), ?_⟩
  refine h σ G H W _ fun xs J O1 G1 H1 ⟨δ, Pv, Of, ⟨d0, p0, o0⟩, hst, hd⟩ gv W1 e1 D hD => ?_
  rw [hv]
  have hG : ∀ {G' : Hp}, Ex G1 G' → EnvR K G' σ Γ := fun e => W.env.mono (e1.trans e)
  refine ⟨fun i m H => m = xs.length - i ∧ i ≤ xs.length ∧ ∃ ys d G2, Pv i ys d ∧ Ws K (B.push G1) Γ' (⟨D, oLst rb, ys⟩ :: Of d) (wipe σ vs) G2 H, ⟨xs.length, by simp, Nat.zero_le _, [], d0, G1, p0, ?_⟩, ?_⟩
  · have W2 := (W1.newOwn hD (r := oLst rb) (x := []) ⟨[], rfl, trivial⟩).base
    rw [o0] at W2
    exact W2.env' (hw.env (hG (Ex.refl _)))
  rintro i m H2 ⟨rfl, hi, ys, d, G2, pd, W2⟩
  have eb : Ex G1 G2 := W2.bs G1 List.mem_cons_self
  by_cases hlt : i < xs.length
  · refine .inr ⟨gv.go i G2 H2 hlt eb W2.sub, fun H' => i + 1 ≤ xs.length ∧ ∃ ys d G2, Pv (i + 1) ys d ∧ Ws K (B.push G1) Γ' (⟨D, oLst rb, ys⟩ :: Of d) (wipe σ vs) G2 H', fun H' ⟨l, z⟩ => ⟨xs.length - (i + 1), by omega, rfl, l, z⟩, fun v H3 y => ?_⟩
    obtain ⟨x, G3, hx, s3, r3⟩ := gv.yld i G2 H2 v H3 hlt eb W2.sub y
    have W3 := W2.step s3
    refine hst G1 D i x ys d hx pd (wipe σ vs) G3 H3 v W3 r3 _ fun Γ2 σ2 q2 W4 wp => ⟨(wp vs hjs).trans wipe_wipe, ?_⟩
    refine q2 σ2 G3 H3 W4 _ fun t O2 G4 H4 kk W5 e5 => ?_
    have back : ∀ {O' : List Own} {G' H' : Hp}, Ws K (B.push G1) Γ2 O' σ2 G' H' → Ws K (B.push G1) Γ' O' (wipe σ vs) G' H' := fun W' => W'.env' (hw.env (hG (W'.bs G1 List.mem_cons_self)))
    cases t with
    | false =>
      obtain ⟨d', o2, p2⟩ := kk.2 rfl
      subst o2
      exact iteF ⟨hlt, ys, d', G4, p2, back W5⟩
    | true =>
      refine iteT ?_
      refine kk.1 rfl σ2 G4 H4 W5 _ fun y O3 u G5 H5 ⟨d', o3, hl, p3⟩ W6 e6 r6 => ?_
      subst o3
      obtain ⟨⟨ob, h1, ws, h2, h3⟩, _⟩ := W6.own _ List.mem_cons_self
      subst h2
      refine ⟨ws, h1, by rw [h3.length]; exact hl, hlt, ys ++ [y], d', G5, p3, ?_⟩
      exact back (W6.mutHd (r' := oLst rb) (x' := ys ++ [y]) ⟨ws ++ [u], rfl, h3.append ⟨r6, trivial⟩⟩)
  · obtain rfl : i = xs.length := by omega
    refine .inl ⟨gv.stop G2 H2 eb W2.sub, q D _ (.ref D) G2 H2 (hd D ys d (W1.notM hD) pd) (W2.unbase.env' (hG eb)) (e1.trans eb) rfl⟩
/-- the same, the list will not change -/
theorem d_frzE {Φ : List α → List Own → Prop} (h : DW F K B Γ O e rAdr fun q O1 => ∃ xs O2, O1 = ⟨q, oLst ra, xs⟩ :: O2 ∧ q ∉ B.M ∧ Φ xs O2) : DW F K B Γ O e (rLst ra) Φ := by
  intro σ G H W Q q
  refine h σ G H W Q fun p O1 v G1 H1 ⟨xs, O2, e1, hM, kk⟩ W1 e2 r => ?_
  subst e1
  obtain ⟨o, ⟨ws, h1, h2⟩, W2, e3⟩ := W1.frz hM
  subst h1
  exact q xs O2 v _ H1 kk W2 (e2.trans e3) ⟨p, ws, r, upd_same, h2.mono fun _ _ z => ra.mono e3 z⟩
end
/-! ### promises -/
/-- a def's promise: from x (with pre), its own objects own x, it gives y and leaves own objects O' (with post) -/
def spM {α β : Type} (K : Fg) (T : List Addr) (ra : RpF α) (pre : α → Prop) (own : α → List Own) (r : Rp β) (post : α → β → List Own → Prop) : Sp := fun vs H Q _ => ∃ G x, Ex G H ∧ (∀ P ∈ T, Tb H P ∧ G P = none) ∧ ra.rep K G vs x ∧ pre x ∧
  (∀ w ∈ own x, (∃ o, H w.a = some o ∧ w.r.rep K G o w.x) ∧ G w.a = none ∧ w.a ∉ T) ∧ ((own x).map (·.a)).Nodup ∧
  ∀ v y O' G' H', Stp T ((own x).map (·.a)) G H G' H' → (∀ w ∈ O', (∃ o, H' w.a = some o ∧ w.r.rep K G' o w.x) ∧ G' w.a = none ∧ w.a ∉ T ∧ (H w.a = none ∨ w.a ∈ (own x).map (·.a))) → (O'.map (·.a)).Nodup → r.rep K G' v y → post x y O' → Q v H'
section
variable {K : Fg} {B : Bs} {Γ : Gm} {O : List Own} {α β : Type} {ra : RpF α} {rb : Rp β} {pre : α → Prop} {own : α → List Own} {post : α → β → List Own → Prop} {T : List Addr}
theorem Stp.tsub {T T' M : List Addr} {G H G' H' : Hp} (a : Stp T M G H G' H') (h : ∀ P ∈ T, P ∈ T') (hm : ∀ P ∈ M, P ∉ T') : Stp T' M G H G' H' :=
  ⟨a.sub, a.g, fun c o q t n => a.h c o q (fun z => t (h c z)) n, a.th, a.fr, fun P hP q => by
    by_cases hT : P ∈ T
    · exact a.tab P hT q
    · obtain ⟨ps, h1, h2⟩ := q
      exact ⟨ps, a.h P _ h1 hT (fun z => hm P z hP), h2⟩⟩
/-- a promise is asked: own x and R are the own objects that stand; behind it O' and R -/
theorem sw_m {x : α} {Φ : β → List Own → Prop} (R : List Own) (hp : pre x) (hO : ∀ w ∈ own x ++ R, w ∈ O) (hn : (O.map (·.a)).Nodup → ((own x ++ R).map (·.a)).Nodup) (h : ∀ y O', post x y O' → Φ y (O' ++ R))
    (hT : ∀ P ∈ T, P ∈ B.T := by first | exact fun _ h => h | (intro _ h; cases h)) : SW K B Γ O (spM K T ra pre own rb post) [] ra x rb Φ := by
  intro σ G H vs W rv Q q
  have W' : Ws K B Γ (own x ++ R) σ G H := W.perm hO hn
  have nd' := W'.nd
  rw [List.map_append] at nd'
  refine ⟨G, x, W.sub, fun P hP => W.tab P (hT P hP), by rw [List.append_nil]; exact rv, hp, fun w hw => ?_, (List.nodup_append.mp nd').1, fun v y O' G' H' s hO' hn' r hpost => ?_⟩
  · obtain ⟨h1, h2, h3, _⟩ := W'.own w (List.mem_append_left _ hw)
    exact ⟨h1, h2, fun z => h3 (hT _ z)⟩
  · have hM : ∀ c ∈ (own x).map (·.a), (c ∈ B.M ∨ B.H0 c = none) ∧ c ∉ B.T := fun c hc => by
      obtain ⟨w, hw, e⟩ := List.mem_map.mp hc
      obtain ⟨_, _, h3, h4⟩ := W'.own w (List.mem_append_left _ hw)
      rw [← e]
      exact ⟨h4.symm, h3⟩
    have s2 := s.tsub hT fun P hP => (hM P hP).2
    refine q y (O' ++ R) v G' H' (h y O' hpost) ⟨W.st.trans s2 fun c hc => (hM c hc).1, fun P hP => ⟨s2.tab P hP (W.tab P hP).1, ?_⟩, fun g hg => (W.bs g hg).trans s.g, W.env.mono s.g, fun w hw => ?_, ?_, W.mh⟩ s.g r
    · cases e : G' P with
      | none => rfl
      | some o =>
        have z := s.fr P (W.tab P hP).2 (by rw [e]; simp)
        obtain ⟨⟨ps, h1, _⟩, _⟩ := W.tab P hP
        rw [h1] at z
        cases z
    · rcases List.mem_append.mp hw with z | z
      · obtain ⟨h1, h2, h3, h4⟩ := hO' w z
        refine ⟨h1, h2, fun hw' => ?_, ?_⟩
        · by_cases hT' : w.a ∈ T
          · exact h3 hT'
          · rcases h4 with h4 | h4
            · obtain ⟨⟨ps, g1, _⟩, _⟩ := W.tab _ hw'
              rw [g1] at h4
              cases h4
            · exact (hM _ h4).2 hw'
        · rcases h4 with h4 | h4
          · exact .inl (W.free h4)
          · exact (hM _ h4).1.symm
      · obtain ⟨⟨o, h1, h2⟩, h3, h4, h5⟩ := W'.own w (List.mem_append_right _ z)
        have nM : w.a ∉ (own x).map (·.a) := fun c => (List.nodup_append.mp nd').2.2 _ c _ (List.mem_map.mpr ⟨w, z, rfl⟩) rfl
        refine ⟨⟨o, s2.h _ _ h1 h4 nM, w.r.mono s.g h2⟩, ?_, h4, h5⟩
        cases e : G' w.a with
        | none => rfl
        | some u =>
          have z := s.fr _ h3 (by rw [e]; simp)
          rw [h1] at z
          cases z
    · rw [List.map_append]
      refine List.nodup_append.mpr ⟨hn', (List.nodup_append.mp nd').2.1, fun c hc d hd e => ?_⟩
      subst e
      obtain ⟨w, hw, ew⟩ := List.mem_map.mp hc
      obtain ⟨w2, hw2, ew2⟩ := List.mem_map.mp hd
      obtain ⟨_, _, _, h4⟩ := hO' w hw
      obtain ⟨⟨o, h1, _⟩, _⟩ := W'.own w2 (List.mem_append_right _ hw2)
      rw [ew2, ← ew] at h1
      rcases h4 with h4 | h4
      · rw [h1] at h4
        cases h4
      · rw [ew] at h4
        exact (List.nodup_append.mp nd').2.2 c h4 c hd rfl
/-- the slots of the arguments -/
class Args {α : Type} (f : RpF α) (g : outParam (α → Gm)) : Prop where
  env : ∀ {K : Fg} {G : Hp} {vs : List V} {x : α} {m : Nat}, f.rep K G vs x → EnvR K G (vs.map some ++ List.replicate m none) (g x ++ List.replicate m none)
theorem env_nones {K : Fg} {G : Hp} : ∀ m : Nat, EnvR K G (List.replicate m none) (List.replicate m none)
  | 0 => trivial
  | m + 1 => env_nones m
instance argsNil : Args fNil (fun _ => []) := ⟨fun {K G vs x m} h => by
  rw [show vs = [] from h]
  exact env_nones m⟩
instance argsOne {r : Rp α} : Args (fOne r) (fun x => [some ⟨r, x⟩]) := ⟨fun {K G vs x m} ⟨v, h, q⟩ => by
  subst h
  exact ⟨⟨v, rfl, q⟩, env_nones m⟩⟩
instance argsCons {r : Rp α} {f : RpF β} {g : β → Gm} [h : Args f g] : Args (fCons r f) (fun x => some ⟨r, x.1⟩ :: g x.2) := ⟨fun {K G vs x m} ⟨v, ws, e, q, z⟩ => by
  subst e
  exact ⟨⟨v, rfl, q⟩, h.env z⟩⟩
/-- the context of a def's body -/
abbrev Xf (P : Program) (w : World) (K : Fg) (mg : Str → Option Value) (base : Heap) (N : List Str) (qual : Str) (st : Stmt) (f : Addr) (cdv : Value) (A : Around) (outer : List Env) (s : Shared) (H : Hp) (E : XK) : Cx :=
  (cxOf CX0 P w K mg base N qual (defScope st) f cdv A outer s H E).nox
/-- THE RULE: a def keeps its promise -/
theorem fn_m {P : Program} {w : World} {mg : Str → Option Value} {base : Heap} {x qual : Str} {st : Stmt} {f : Addr} {fd : FuncData} {N ps : List Str} {k m : Nat} {g : α → Gm} [hl : Len ra m] [ha : Args ra g]
    (F : Fun K x qual st f fd) (S : FnScope N ps (defScope st)) (T : List Addr)
    (h : ∀ (cdv : Value) (A : Around) (outer : List Env) (s : Shared) (G H : Hp) (E : XK) (x : α) (Q : VK), Fam (Us (Xf P w K mg base N qual st f cdv A outer s H E)) P w K mg base k → pre x →
      (∀ {Γ : Gm} {O' : List Own} {y : β}, post x y O' → RT K ⟨T, (own x).map (·.a), G, H, []⟩ Γ O' rb y { nx := fun _ H' => Q .non H', rt := Q }) →
      DS (Xf P w K mg base N qual st f cdv A outer s H E) K ⟨T, (own x).map (·.a), G, H, []⟩ (g x ++ List.replicate (N.length - m) none) (own x) (defBody st) { nx := fun _ H' => Q .non H', rt := Q }) (hm : m = ps.length := by rfl) :
    FnOk P w K mg base CX0 (k + 1) f fd ps (spM K T ra pre own rb post) := by
  refine F.ok S (fun vs H Q E ⟨G, x, _, _, r, _⟩ => by rw [hl.len r]; exact hm) fun cdv A outer s H vs Q E hr ⟨G, x, sub, tab, r, hp, ho, hn, q⟩ => ?_
  have fam : Fam (Us (Xf P w K mg base N qual st f cdv A outer s H E)) P w K mg base k := ⟨fun _ => rfl, fun _ => rfl, fun _ => rfl, fun _ => rfl, fun _ => rfl, fun _ => hr, fun _ => rfl, fun _ => S.nd⟩
  have hx := h cdv A outer s G H E x Q fam hp (fun {Γ O' y} hpost v σ G' H' W rv => q v y O' G' H' W.st (fun w hw => let ⟨a, b, c, d⟩ := W.own w hw; ⟨a, b, c, d⟩) W.nd rv hpost)
  refine hx (L2.start N vs) G H ⟨Stp.refl sub, tab, fun _ z => absurd z (by simp), ?_, fun w hw => ?_, hn, fun c hc => ?_⟩
  · have e := ha.env (m := N.length - m) r
    unfold L2.start
    rw [hl.len r]
    exact e
  · obtain ⟨a, b, c⟩ := ho w hw
    exact ⟨a, b, c, .inr (List.mem_map.mpr ⟨w, hw, rfl⟩)⟩
  · obtain ⟨w, hw, e⟩ := List.mem_map.mp hc
    obtain ⟨⟨o, a, _⟩, _⟩ := ho w hw
    show H c ≠ none
    rw [← e, a]
    simp
/-- a promise that changes nothing -/
abbrev sp0 (K : Fg) (T : List Addr) (ra : RpF α) (pre : α → Prop) (r : Rp β) (post : α → β → Prop) : Sp := spM K T ra pre (fun _ => []) r fun x y O' => O' = [] ∧ post x y
theorem sw_0 {x : α} {post : α → β → Prop} {Φ : β → List Own → Prop} (hp : pre x) (h : ∀ y, post x y → Φ y O) (hT : ∀ P ∈ T, P ∈ B.T := by first | exact fun _ h => h | (intro _ h; cases h)) : SW K B Γ O (sp0 K T ra pre rb post) [] ra x rb Φ :=
  sw_m O hp (fun w hw => hw) (fun z => z) (fun y O' ⟨e, p⟩ => by subst e; exact h y p) hT
end
/-! ### own lists that are done -/
section
variable {X : Cx} {K : Fg} {B : Bs} {Γ Γ' : Gm} {O O' : List Own} {α β : Type} {ra : Rp α} {D : Ends} {rest : List Stmt}
theorem rt_frz {q : Addr} {xs : List α} (hM : q ∉ B.M) (h : RT K B Γ O (rLst ra) xs D) : RT K B Γ (⟨q, oLst ra, xs⟩ :: O) rAdr q D := fun v σ G H W r => by
  obtain ⟨o, ⟨ws, h1, h2⟩, W2, e⟩ := W.frz hM
  subst h1
  exact h v σ _ H W2 ⟨q, ws, r, upd_same, h2.mono fun _ _ z => ra.mono e z⟩
theorem s_frz (i : Nat) {q : Addr} {xs : List α} {f : Option Slot → Gm} [hA : At Γ i rAdr q] [hg : SetG Γ i f] (hM : q ∉ B.M) (h : DS X K B (f (some ⟨rLst ra, xs⟩)) O rest D) : DS X K B Γ (⟨q, oLst ra, xs⟩ :: O) rest D := fun σ G H W => by
  obtain ⟨o, ⟨ws, h1, h2⟩, W2, e⟩ := W.frz hM
  subst h1
  obtain ⟨u, h3, h4⟩ := W2.env.get hA.get
  have W3 := W2.set (s := ⟨rLst ra, xs⟩) i (u := u) ⟨q, ws, h4, upd_same, h2.mono fun _ _ z => ra.mono e z⟩
  have e2 : σ.set i (some u) = σ := by
    refine List.ext_getElem? fun j => ?_
    by_cases hj : i = j
    · subst hj
      rw [List.getElem?_set_self (List.getElem?_eq_some_iff.mp h3).1, h3]
    · rw [List.getElem?_set_ne hj]
  rw [e2, ← hg.eq] at W3
  exact h σ _ H W3
end
end Sk
set_option Elab.async false
set_option linter.all false
set_option maxRecDepth 100000
set_option maxHeartbeats 4100000
/-! Sk5: dicts by written keys; what an own object hides. -/
namespace Sk
open PySem L2 Evl
/-! ### dicts whose keys are written texts -/
abbrev zipK (ns : List Str) (vs : List V) : List (Key × V) := (ns.map Sum.inr).zip vs
theorem zip_val {k : Str} : ∀ {ns : List Str} {vs : List V} {i : Nat}, ns.Nodup → ns[i]? = some k → valV (zipK ns vs) (Sum.inr k) = vs[i]?
  | [], _, _, _, e => by simp at e
  | n :: ns, [], i, _, _ => by
    show valV ([] : List (Key × V)) _ = _
    rw [valV_nil]
    simp
  | n :: ns, v :: vs, 0, h, e => by
    have e' : n = k := by simpa using e
    subst e'
    show valV ((Sum.inr n, v) :: zipK ns vs) _ = _
    rw [valV_pos rfl]
    rfl
  | n :: ns, v :: vs, i + 1, h, e => by
    have e' : ns[i]? = some k := by simpa using e
    have ne : ¬ (Sum.inr n : Key) = Sum.inr k := fun z => (List.nodup_cons.mp h).1 (by
      have z' : n = k := Sum.inr.inj z
      rw [z']
      exact List.mem_of_getElem? e')
    show valV ((Sum.inr n, v) :: zipK ns vs) _ = _
    rw [valV_neg ne, zip_val (List.nodup_cons.mp h).2 e']
    simp
theorem zip_mem {k : Str} {i : Nat} : ∀ {ns : List Str} {vs : List V}, ns[i]? = some k → i < vs.length → ∃ y ∈ zipK ns vs, y.1 = Sum.inr k := fun {ns vs} e h => by
  refine ⟨(Sum.inr k, vs[i]), ?_, rfl⟩
  refine List.mem_of_getElem? (i := i) ?_
  rw [List.getElem?_zip_eq_some]
  exact ⟨by rw [List.getElem?_map, e]; rfl, List.getElem?_eq_getElem h⟩
theorem zip_put {k : Str} {y : V} : ∀ {ns : List Str} {vs : List V} {i : Nat}, ns.Nodup → ns[i]? = some k → i < vs.length → putK (zipK ns vs) (Sum.inr k) y = zipK ns (vs.set i y) := by
  intro ns vs i h e hi
  have hany : ((zipK ns vs).any fun kv => decide (kv.1 = (Sum.inr k : Key))) = true := by
    obtain ⟨p, hp, e1⟩ := zip_mem (vs := vs) e hi
    exact List.any_eq_true.mpr ⟨p, hp, decide_eq_true e1⟩
  unfold putK
  rw [if_pos hany]
  clear hany
  induction ns generalizing vs i with
  | nil => simp at e
  | cons n ns ih =>
    cases vs with
    | nil => simp at hi
    | cons v vs =>
      cases i with
      | zero =>
        have e' : n = k := by simpa using e
        subst e'
        show (if (Sum.inr n : Key) = Sum.inr n then _ else _) :: List.map _ (zipK ns vs) = (Sum.inr n, y) :: zipK ns vs
        rw [if_pos rfl]
        refine congrArg _ ?_
        refine (List.map_congr_left fun p hp => ?_).trans (List.map_id _)
        have hk : p.1 ∈ ns.map Sum.inr := (List.of_mem_zip (show (p.1, p.2) ∈ _ from hp)).1
        obtain ⟨m, hm, em⟩ := List.mem_map.mp hk
        have ne : ¬ p.1 = (Sum.inr n : Key) := fun z => (List.nodup_cons.mp h).1 (by
          have z' : m = n := Sum.inr.inj (em.trans z)
          rw [← z']
          exact hm)
        rw [if_neg ne]
        rfl
      | succ i =>
        have e' : ns[i]? = some k := by simpa using e
        have ne : ¬ (Sum.inr n : Key) = Sum.inr k := fun z => (List.nodup_cons.mp h).1 (by
          have z' : n = k := Sum.inr.inj z
          rw [z']
          exact List.mem_of_getElem? e')
        show (if (Sum.inr n : Key) = Sum.inr k then _ else _) :: List.map _ (zipK ns vs) = (Sum.inr n, v) :: zipK ns (vs.set i y)
        rw [if_neg ne]
        exact congrArg _ (ih (List.nodup_cons.mp h).2 e' (by simpa using hi))
def rRec {α : Type} (ns : List Str) (f : RpF α) : Rp α := ⟨fun K G v x => ∃ a vs, v = .ref a ∧ G a = some (.dK (zipK ns vs)) ∧ f.rep K G vs x, fun e ⟨a, vs, h1, h2, h3⟩ => ⟨a, vs, h1, e _ _ h2, f.mono e h3⟩⟩
def oRec {α : Type} (ns : List Str) (f : RpF α) : Ow α := ⟨fun K G o x => ∃ vs, o = .dK (zipK ns vs) ∧ f.rep K G vs x, fun e ⟨vs, h1, h2⟩ => ⟨vs, h1, f.mono e h2⟩⟩
/-- the i-th of unlike things, set -/
class FSet {α : Type} (f : RpF α) (i : Nat) {β : outParam Type} (r : outParam (Rp β)) (g : outParam (α → β → α)) : Prop where
  set : ∀ {K : Fg} {G : Hp} {vs : List V} {x : α} {v : V} {y : β}, f.rep K G vs x → r.rep K G v y → f.rep K G (vs.set i v) (g x y)
section
variable {α β γ : Type}
instance fset1 {r : Rp α} : FSet (fOne r) 0 r (fun _ y => y) := ⟨fun ⟨v, h, k⟩ q => ⟨_, by rw [h]; rfl, q⟩⟩
instance fset0 {r : Rp α} {f : RpF β} : FSet (fCons r f) 0 r (fun x y => (y, x.2)) := ⟨fun ⟨v, ws, h, k, z⟩ q => ⟨_, ws, by rw [h]; rfl, q, z⟩⟩
instance fsetS {r : Rp α} {f : RpF β} {i : Nat} {r' : Rp γ} {g : β → γ → β} [h : FSet f i r' g] : FSet (fCons r f) (i + 1) r' (fun x y => (x.1, g x.2 y)) := ⟨fun ⟨v, ws, e, k, z⟩ q => ⟨v, _, by rw [e]; rfl, k, h.set z q⟩⟩
variable {ι : Type} {F : ι → Cx} {K : Fg} {B : Bs} {Γ : Gm} {O : List Own} {ra : Rp α} {rb : Rp β} {e o : Expr} {p pos pos' pos2 : Pos} {j : Nat} {ns : List Str} {fr : RpF α}
variable {P : Program} {w : World} {mg : Str → Option Value} {base : Heap} {k : Nat}
/-- d['key'], an own dict, a dict -/
theorem d_recO [fam : Fam F P w K mg base k] {key : Str} (i : Nat) {r : Rp β} {g : α → β} [hf : FAt fr i r g] {Φ : β → List Own → Prop} (hk : ns[i]? = some key) (hn : ns.Nodup)
    (h : DW F K B Γ O o rAdr fun q O1 => ∃ x f, OwnAt O1 q (oRec ns fr) x f ∧ Φ (g x) O1) : DW F K B Γ O (.Subscript o (.Constant (.str key) j pos') pos) r Φ := by
  intro σ G H W Q q
  refine ⟨tDGet (WE F o) (tC (.str key)), fun i => pe_dget (by have := (fam.rm i).units; omega) (WE.pe i) pe_str (fun _ _ => rfl), ?_⟩
  refine h σ G H W _ fun c O1 v G1 H1 ⟨x, f, hO, kk⟩ W1 e1 r1 => ?_
  obtain ⟨ob, h1, vs, h2, h3⟩ := W1.ownO hO
  subst h2
  obtain ⟨u, h4, h5⟩ := hf.get h3
  refine ⟨c, u, r1, ?_, q _ O1 u G1 H1 kk W1 e1 h5⟩
  have e2 := DGet.k (k := Sum.inr key) h1
  rw [zip_val hn hk, h4] at e2
  exact e2
theorem d_rec [fam : Fam F P w K mg base k] {key : Str} (i : Nat) {r : Rp β} {g : α → β} [hf : FAt fr i r g] {Φ : β → List Own → Prop} (hk : ns[i]? = some key) (hn : ns.Nodup)
    (h : DW F K B Γ O o (rRec ns fr) fun x O1 => Φ (g x) O1) : DW F K B Γ O (.Subscript o (.Constant (.str key) j pos') pos) r Φ := by
  intro σ G H W Q q
  refine ⟨tDGet (WE F o) (tC (.str key)), fun i => pe_dget (by have := (fam.rm i).units; omega) (WE.pe i) pe_str (fun _ _ => rfl), ?_⟩
  refine h σ G H W _ fun x O1 v G1 H1 kk W1 e1 ⟨c, vs, r1, h1, h3⟩ => ?_
  obtain ⟨u, h4, h5⟩ := hf.get h3
  refine ⟨c, u, r1, ?_, q _ O1 u G1 H1 kk W1 e1 h5⟩
  have e2 := DGet.k (k := Sum.inr key) (W1.sub _ _ h1)
  rw [zip_val hn hk, h4] at e2
  exact e2
/-- the same, the dict a name's -/
theorem d_recV [fam : Fam F P w K mg base k] {key n : Str} (iv i : Nat) {q : Addr} {x : α} {f : Own → List Own} {r : Rp β} {g : α → β} [hA : At Γ iv rAdr q] [hO : OwnAt O q (oRec ns fr) x f] [hf : FAt fr i r g] {Φ : β → List Own → Prop} (hk : ns[i]? = some key) (hn : ns.Nodup) (kk : Φ (g x) O)
    (hN : ∀ j, (F j).N[iv]? = some n := by intro _; rfl) (hv : ∀ j, Vis (F j).env.scope n := by intro _; first | exact Or.inl rfl | exact Or.inr (Or.inl rfl) | exact Or.inr (Or.inr rfl)) (hd : (n == ("__debug__" : Str)) = false := by decide)
    (hcd : (n == ("__classdict__" : Str)) = false := by decide) : DW F K B Γ O (.Subscript (.Name n pos2) (.Constant (.str key) j pos') pos) r Φ :=
  d_recO i hk hn (d_var iv ⟨x, f, hO, kk⟩ hN hv hd hcd)
theorem d_recP [fam : Fam F P w K mg base k] {key n : Str} (iv i : Nat) {x : α} {r : Rp β} {g : α → β} [hA : At Γ iv (rRec ns fr) x] [hf : FAt fr i r g] {Φ : β → List Own → Prop} (hk : ns[i]? = some key) (hn : ns.Nodup) (kk : Φ (g x) O)
    (hN : ∀ j, (F j).N[iv]? = some n := by intro _; rfl) (hv : ∀ j, Vis (F j).env.scope n := by intro _; first | exact Or.inl rfl | exact Or.inr (Or.inl rfl) | exact Or.inr (Or.inr rfl)) (hd : (n == ("__debug__" : Str)) = false := by decide)
    (hcd : (n == ("__classdict__" : Str)) = false := by decide) : DW F K B Γ O (.Subscript (.Name n pos2) (.Constant (.str key) j pos') pos) r Φ :=
  d_rec i hk hn (d_var iv kk hN hv hd hcd)
/-- d['key'] = e, an own dict that has the key -/
theorem s_recPut {X : Cx} {rest : List Stmt} {D : Ends} [fam : Fam (Us X) P w K mg base k] {key : Str} (i : Nat) {m : Nat} {r : Rp β} {g : α → β → α} [hf : FSet fr i r g] [hl : Len fr m] (hk : ns[i]? = some key) (hn : ns.Nodup)
    (h : DW (Us X) K B Γ O e r fun y O1 => DW (Us X) K B Γ O1 o rAdr fun q O2 => ∃ x f, OwnAt O2 q (oRec ns fr) x f ∧ DS X K B Γ (f ⟨q, oRec ns fr, g x y⟩) rest D)
    (hi : i < m := by decide) (hm : m < 1000 := by decide) (hs : swapsWith e (some (.Subscript o (.Constant (.str key) j pos') pos2)) pos.line X.env = pure false := by rfl) : DS X K B Γ O (.Assign [.Subscript o (.Constant (.str key) j pos') pos2] e pos :: rest) D := by
  intro σ G H W
  refine WSs.cons (ps_dput (td := WE (Us X) o) (ty := tC (.str key)) (tv := WE (Us X) e) (hu_of (fam.rm ())) (WE.pe (F := Us X) ()) pe_str (WE.pe (F := Us X) ()) hs) ?_
  refine h σ G H W _ fun y O1 u G1 H1 k1 W1 e1 r1 => ?_
  refine k1 σ G1 H1 W1 _ fun c O2 v G2 H2 ⟨x, f, hO, kk⟩ W2 e2 r2 => ?_
  obtain ⟨ob, h1, vs, h2, h3⟩ := W2.ownO hO
  subst h2
  have hlen := hl.len h3
  have hz : (zipK ns vs).length < sizeLine := by
    have e3 : (zipK ns vs).length ≤ vs.length := by
      unfold zipK
      rw [List.length_zip]
      exact Nat.min_le_right _ _
    exact Nat.lt_of_le_of_lt e3 (by rw [hlen]; exact small1000 (by omega))
  refine ⟨c, _, r2, DPut.k (k := Sum.inr key) h1 hz, ?_⟩
  refine kk _ _ _ (W2.mutO (h := hO) (r' := oRec ns fr) (x' := g x y) ⟨vs.set i u, ?_, hf.set h3 (r.mono e2 r1)⟩)
  rw [zip_put hn hk (by omega)]
/-- the same, the dict a name's, e changes none of the own objects -/
theorem s_recPutV {X : Cx} {rest : List Stmt} {D : Ends} [fam : Fam (Us X) P w K mg base k] {key n : Str} (iv i : Nat) {m : Nat} {q : Addr} {x : α} {f : Own → List Own} {r : Rp β} {g : α → β → α} [hA : At Γ iv rAdr q] [hO : OwnAt O q (oRec ns fr) x f] [hf : FSet fr i r g] [hl : Len fr m] (hk : ns[i]? = some key) (hn : ns.Nodup)
    (h : DW (Us X) K B Γ O e r fun y O1 => O1 = O ∧ DS X K B Γ (f ⟨q, oRec ns fr, g x y⟩) rest D)
    (hN : X.N[iv]? = some n := by rfl) (hv : Vis X.env.scope n := by first | exact Or.inl rfl | exact Or.inr (Or.inl rfl) | exact Or.inr (Or.inr rfl)) (hd : (n == ("__debug__" : Str)) = false := by decide) (hcd : (n == ("__classdict__" : Str)) = false := by decide)
    (hi : i < m := by decide) (hm : m < 1000 := by decide) (hs : swapsWith e (some (.Subscript (.Name n p) (.Constant (.str key) j pos') pos2)) pos.line X.env = pure false := by rfl) : DS X K B Γ O (.Assign [.Subscript (.Name n p) (.Constant (.str key) j pos') pos2] e pos :: rest) D := by
  refine s_recPut (fr := fr) (m := m) (g := g) i hk hn (d_mono h fun y O1 ⟨e1, kk⟩ => ?_) hi hm hs
  subst e1
  exact d_var iv ⟨x, f, hO, kk⟩ (fun _ => hN) (fun _ => hv) hd hcd
end
/-! ### hidden states -/
def oEx {α : Type} (r : Ow α) (good : α → Prop) : Ow Unit := ⟨fun K G o _ => ∃ x, good x ∧ r.rep K G o x, fun e ⟨x, h1, h2⟩ => ⟨x, h1, r.mono e h2⟩⟩
section
variable {X : Cx} {K : Fg} {B : Bs} {Γ Γ' : Gm} {O O' : List Own} {α β γ : Type} {ra : Rp α} {D : Ends} {rest : List Stmt} {r : Ow β} {good : β → Prop}
theorem s_open {q : Addr} (h : ∀ x, good x → DS X K B Γ (⟨q, r, x⟩ :: O) rest D) : DS X K B Γ (⟨q, oEx r good, ()⟩ :: O) rest D := fun σ G H W => by
  obtain ⟨⟨o, h1, x, h2, h3⟩, h4, h5, h6⟩ := W.own _ List.mem_cons_self
  refine h x h2 σ G H ⟨W.st, W.tab, W.bs, W.env, fun v hv => ?_, W.nd, W.mh⟩
  rcases List.mem_cons.mp hv with z | z
  · subst z
    exact ⟨⟨o, h1, h3⟩, h4, h5, h6⟩
  · exact W.own v (List.mem_cons_of_mem _ z)
theorem Ws.close {q : Addr} {x : β} {σ : St} {G H : Hp} (hx : good x) (W : Ws K B Γ (⟨q, r, x⟩ :: O) σ G H) : Ws K B Γ (⟨q, oEx r good, ()⟩ :: O) σ G H :=
  ⟨W.st, W.tab, W.bs, W.env, fun v hv => by
    rcases List.mem_cons.mp hv with z | z
    · subst z
      obtain ⟨⟨o, h1, h3⟩, h4, h5, h6⟩ := W.own _ List.mem_cons_self
      exact ⟨⟨o, h1, x, hx, h3⟩, h4, h5, h6⟩
    · exact W.own v (List.mem_cons_of_mem _ z), W.nd, W.mh⟩
theorem rt_close {q : Addr} {x : β} {y : α} (hx : good x) (h : RT K B Γ (⟨q, oEx r good, ()⟩ :: O) ra y D) : RT K B Γ (⟨q, r, x⟩ :: O) ra y D := fun v σ G H W => h v σ G H (W.close hx)
end
/-! ### built-ins by name -/
theorem bt_abs : bootBuiltins "abs" = some (.builtin "abs") := by decide +kernel
theorem bt_len : bootBuiltins "len" = some (.builtin "len") := by decide +kernel
theorem bt_max : bootBuiltins "max" = some (.builtin "max") := by decide +kernel
theorem bt_min : bootBuiltins "min" = some (.builtin "min") := by decide +kernel
theorem bt_sum : bootBuiltins "sum" = some (.builtin "sum") := by decide +kernel
theorem bt_isi : bootBuiltins "isinstance" = some (.builtin "isinstance") := by decide +kernel
theorem bt_int : bootBuiltins "int" = some (.type "int") := by decide +kernel
theorem bt_str : bootBuiltins "str" = some (.type "str") := by decide +kernel
theorem bt_list : bootBuiltins "list" = some (.type "list") := by decide +kernel
theorem bt_tuple : bootBuiltins "tuple" = some (.type "tuple") := by decide +kernel
end Sk
set_option Elab.async false
set_option linter.all false
set_option maxRecDepth 100000
set_option maxHeartbeats 4100000
/-! Sk6: pure tests, pure comprehensions, promises by a function. -/
namespace Sk
open PySem L2 Evl
section
variable {ι : Type} {F : ι → Cx} {K : Fg} {B : Bs} {Γ : Gm} {O : List Own} {α β γ : Type} {ra : Rp α} {rb : Rp β} {rc : Rp γ} {a b c e elt tg iter : Expr} {es ifs : List Expr} {pos p : Pos} {n : Str} {scope : Scope}
variable {P : Program} {w : World} {mg : Str → Option Value} {base : Heap} {k : Nat}
/-! tests whose answer is known -/
theorem dt_notP {x : Bool} (h : DT F K B Γ O a fun t O' => t = x ∧ O' = O) : DT F K B Γ O (.UnaryOp .Not a pos) fun t O' => t = (!x) ∧ O' = O :=
  dt_not (dt_mono h fun t O' ⟨e1, e2⟩ => ⟨by rw [e1], e2⟩)
theorem dp_andP {x y : Bool} (h : DT F K B Γ O a fun t O' => t = x ∧ O' = O) (h2 : x = true → DP F K B Γ O (.BoolOp .And (b :: es) pos) fun t O' => t = y ∧ O' = O) : DP F K B Γ O (.BoolOp .And (a :: b :: es) pos) fun t O' => t = (x && y) ∧ O' = O := by
  refine dp_and (dt_mono h fun t O' ⟨e1, e2⟩ => ?_)
  subst e1 e2
  cases t with
  | true => exact ⟨fun _ => h2 rfl, fun z => Bool.noConfusion z⟩
  | false => exact ⟨fun z => Bool.noConfusion z, fun _ => ⟨rfl, rfl⟩⟩
theorem dp_orP {x y : Bool} (h : DT F K B Γ O a fun t O' => t = x ∧ O' = O) (h2 : x = false → DP F K B Γ O (.BoolOp .Or (b :: es) pos) fun t O' => t = y ∧ O' = O) : DP F K B Γ O (.BoolOp .Or (a :: b :: es) pos) fun t O' => t = (x || y) ∧ O' = O := by
  refine dp_or (dt_mono h fun t O' ⟨e1, e2⟩ => ?_)
  subst e1 e2
  cases t with
  | true => exact ⟨fun z => Bool.noConfusion z, fun _ => ⟨rfl, rfl⟩⟩
  | false => exact ⟨fun _ => h2 rfl, fun z => Bool.noConfusion z⟩
theorem d_andP {x y : Bool} (h : DW F K B Γ O a rBool fun t O' => t = x ∧ O' = O) (h2 : x = true → DW F K B Γ O (.BoolOp .And (b :: es) pos) rBool fun t O' => t = y ∧ O' = O) : DW F K B Γ O (.BoolOp .And (a :: b :: es) pos) rBool fun t O' => t = (x && y) ∧ O' = O := by
  refine d_and (d_mono h fun t O' ⟨e1, e2⟩ => ?_)
  subst e1 e2
  cases t with
  | true => exact ⟨fun _ => h2 rfl, fun z => Bool.noConfusion z⟩
  | false => exact ⟨fun z => Bool.noConfusion z, fun _ => ⟨rfl, rfl⟩⟩
theorem d_orP {x y : Bool} (h : DW F K B Γ O a rBool fun t O' => t = x ∧ O' = O) (h2 : x = false → DW F K B Γ O (.BoolOp .Or (b :: es) pos) rBool fun t O' => t = y ∧ O' = O) : DW F K B Γ O (.BoolOp .Or (a :: b :: es) pos) rBool fun t O' => t = (x || y) ∧ O' = O := by
  refine d_or (d_mono h fun t O' ⟨e1, e2⟩ => ?_)
  subst e1 e2
  cases t with
  | true => exact ⟨fun z => Bool.noConfusion z, fun _ => ⟨rfl, rfl⟩⟩
  | false => exact ⟨fun _ => h2 rfl, fun z => Bool.noConfusion z⟩
theorem dt_chainP {op op' : CmpOp} {x y : Bool} (h : DW F K B Γ O a ra fun u O1 => DW F K B Γ O1 b rb fun v O2 => OW F K B Γ O2 (compareOp op) ra rb u v rBool fun z O3 =>
      z = x ∧ O3 = O ∧ (x = true → DW F K B Γ O c rc fun q O4 => OW F K B Γ O4 (compareOp op') rb rc v q rBool fun t O' => t = y ∧ O' = O))
    (hm : lastMarks [op, op'] [b, c] = false := by with_unfolding_all rfl) : DT F K B Γ O (.Compare a [op, op'] [b, c] pos) fun t O' => t = (x && y) ∧ O' = O := by
  refine dt_chain (rb := rb) (rc := rc) (d_mono h fun u O1 h1 => d_mono h1 fun v O2 h2 => fun σ G H vv ww W r1 r2 Q q => h2 σ G H vv ww W r1 r2 Q fun z O3 u' G' H' ⟨e1, e2, e3⟩ W' ex r => q z O3 u' G' H' ?_ W' ex r) hm
  subst e1 e2
  cases z with
  | true => exact ⟨fun _ => e3 rfl, fun z => Bool.noConfusion z⟩
  | false => exact ⟨fun z => Bool.noConfusion z, fun _ => ⟨rfl, rfl⟩⟩
/-- a known value goes on -/
theorem d_then {x : α} {Φ : α → List Own → Prop} (h : DW F K B Γ O e ra fun t O' => t = x ∧ O' = O) (q : Φ x O) : DW F K B Γ O e ra Φ := d_mono h fun t O' ⟨e1, e2⟩ => by
  subst e1 e2
  exact q
theorem dt_then {x : Bool} {Φ : Bool → List Own → Prop} (h : DT F K B Γ O e fun t O' => t = x ∧ O' = O) (q : Φ x O) : DT F K B Γ O e Φ := dt_mono h fun t O' ⟨e1, e2⟩ => by
  subst e1 e2
  exact q
theorem d_iteP {x : Bool} {Φ : α → List Own → Prop} (h : DT F K B Γ O c fun t O' => t = x ∧ O' = O) (h1 : x = true → DW F K B Γ O a ra Φ) (h2 : x = false → DW F K B Γ O b ra Φ) : DW F K B Γ O (.IfExp c a b pos) ra Φ :=
  d_ite (dt_then h ⟨h1, h2⟩)
/-! pure comprehensions -/
theorem take_snoc {α : Type} {l : List α} {i : Nat} {x : α} (h : l[i]? = some x) : l.take (i + 1) = l.take i ++ [x] := by
  rw [List.take_add_one, h]
  rfl
theorem d_lcF [fam : Fam F P w K mg base k] (own : List (Str × Nat)) (vs : List Nat) (ok : ∀ i, BlkOk (F i).N (F i).env.scope scope own) {Γ' : Gm} [hw : WipeG Γ vs Γ'] {js : List Nat} {f : α → β} {g : α → Bool} {Φ : List β → List Own → Prop}
    (h : DI F K B Γ O tg iter ra fun xs O1 => O1 = O ∧ xs.length ≤ sizeLine ∧
      (∀ gg D ys x, x ∈ xs → DG (blkF F scope) K (B.push gg) Γ' (⟨D, oLst rb, ys⟩ :: O) tg ra x js fun Γ2 => DTs (blkF F scope) K (B.push gg) Γ2 (⟨D, oLst rb, ys⟩ :: O) ifs fun t O2 =>
        t = g x ∧ O2 = ⟨D, oLst rb, ys⟩ :: O ∧ (g x = true → DW (blkF F scope) K (B.push gg) Γ2 (⟨D, oLst rb, ys⟩ :: O) elt rb fun y O3 => y = f x ∧ O3 = ⟨D, oLst rb, ys⟩ :: O)) ∧
      Φ ((xs.filter g).map f) O)
    (hv : own.map (·.2) = vs := by rfl) (hjs : ∀ j ∈ js, j ∈ vs := by decide) (hs : ∀ i x, foldedSetIterable iter (F i).env x = pure x := by intro _ _; rfl) :
    DW F K B Γ O (.ListComp elt [⟨tg, iter, ifs, 0⟩] scope pos) (rLst rb) Φ := by
  refine d_frzE (d_lcO (ra := ra) (rb := rb) own vs ok ?_ hv hjs hs)
  intro σ G H W R q
  refine h σ G H W R fun xs J O1 G1 H1 ⟨e1, hl, ht, hd⟩ gv W1 ee => q xs J O1 G1 H1 ⟨Unit, fun i ys _ => i ≤ xs.length ∧ ys = ((xs.take i).filter g).map f, fun _ => O, ⟨(), ⟨Nat.zero_le _, rfl⟩, e1⟩, fun gg D i x ys d hx ⟨hi, hy⟩ => ?_, fun D ys d hM ⟨_, hy⟩ => ?_⟩ gv W1 ee
  · have hlt : i < xs.length := (List.getElem?_eq_some_iff.mp hx).1
    have hmem := List.mem_of_getElem? hx
    have hlen : ys.length ≤ i := by
      rw [hy, List.length_map]
      refine Nat.le_trans (List.length_filter_le _ _) ?_
      rw [List.length_take]
      exact Nat.min_le_left _ _
    intro σ2 G2 H2 v W2 r2 Q2 q2
    refine ht gg D ys x hmem σ2 G2 H2 v W2 r2 Q2 fun Γ2 σ' p W' wp => q2 Γ2 σ' (fun σ3 G3 H3 W3 Q3 q3 => p σ3 G3 H3 W3 Q3 fun t O2 G4 H4 ⟨p1, p2, p3⟩ W4 e4 => q3 t O2 G4 H4 ?_ W4 e4) W' wp
    subst p1 p2
    refine ⟨fun ht => d_mono (p3 ht) fun y O3 ⟨z1, z2⟩ => ⟨(), z2, by omega, hlt, ?_⟩, fun ht => ⟨(), rfl, hlt, ?_⟩⟩
    · rw [take_snoc hx, List.filter_append, List.map_append, ← hy, z1]
      congr 1
      simp [ht]
    · rw [take_snoc hx, List.filter_append, List.map_append, ← hy]
      simp [ht]
  · rw [List.take_length] at hy
    subst hy
    exact ⟨_, _, rfl, hM, hd⟩
/-- without a test -/
theorem d_lcP [fam : Fam F P w K mg base k] (own : List (Str × Nat)) (vs : List Nat) (ok : ∀ i, BlkOk (F i).N (F i).env.scope scope own) {Γ' : Gm} [hw : WipeG Γ vs Γ'] {js : List Nat} {f : α → β} {Φ : List β → List Own → Prop}
    (h : DI F K B Γ O tg iter ra fun xs O1 => O1 = O ∧ xs.length ≤ sizeLine ∧
      (∀ gg D ys x, x ∈ xs → DG (blkF F scope) K (B.push gg) Γ' (⟨D, oLst rb, ys⟩ :: O) tg ra x js fun Γ2 =>
        DW (blkF F scope) K (B.push gg) Γ2 (⟨D, oLst rb, ys⟩ :: O) elt rb fun y O3 => y = f x ∧ O3 = ⟨D, oLst rb, ys⟩ :: O) ∧ Φ (xs.map f) O)
    (hv : own.map (·.2) = vs := by rfl) (hjs : ∀ j ∈ js, j ∈ vs := by decide) (hs : ∀ i x, foldedSetIterable iter (F i).env x = pure x := by intro _ _; rfl) :
    DW F K B Γ O (.ListComp elt [⟨tg, iter, [], 0⟩] scope pos) (rLst rb) Φ := by
  refine d_lcF (ra := ra) (f := f) (g := fun _ => true) own vs ok ?_ hv hjs hs
  intro σ G H W R q
  refine h σ G H W R fun xs J O1 G1 H1 ⟨e1, hl, ht, hd⟩ gv W1 ee => q xs J O1 G1 H1 ⟨e1, hl, fun gg D ys x hx σ2 G2 H2 v W2 r2 Q2 q2 => ht gg D ys x hx σ2 G2 H2 v W2 r2 Q2 fun Γ2 σ' p W' wp => q2 Γ2 σ' (dts_nil ⟨rfl, rfl, fun _ => p⟩) W' wp, ?_⟩ gv W1 ee
  have e : xs.filter (fun _ => true) = xs := List.filter_eq_self.mpr fun _ _ => rfl
  rw [e]
  exact hd
end
/-! ### promises by a function; promises that keep their own object -/
section
variable {K : Fg} {B : Bs} {Γ : Gm} {O : List Own} {α β γ : Type} {ra : RpF α} {rb : Rp β} {pre : α → Prop} {T : List Addr}
abbrev spF (K : Fg) (T : List Addr) (ra : RpF α) (pre : α → Prop) (r : Rp β) (f : α → β) : Sp := sp0 K T ra pre r fun x y => y = f x
theorem sw_f {x : α} {f : α → β} {Φ : β → List Own → Prop} (hp : pre x) (h : Φ (f x) O) (hT : ∀ P ∈ T, P ∈ B.T := by first | exact fun _ h => h | (intro _ h; cases h)) : SW K B Γ O (spF K T ra pre rb f) [] ra x rb Φ :=
  sw_0 hp (fun y e => by subst e; exact h) hT
theorem ndm {α : Type} {a : α} {l r : List α} : (l ++ a :: r).Nodup ↔ ([a] ++ (l ++ r)).Nodup := List.perm_middle.nodup_iff
/-- one own object, kept as it is told -/
abbrev sp1 (K : Fg) (T : List Addr) (ra : RpF α) (pre : α → Prop) (own : α → Own) (r : Rp β) (post : α → β → Prop) : Sp := spM K T ra pre (fun x => [own x]) r fun x y O' => O' = [own x] ∧ post x y
theorem sw_1 {x : α} {q : Addr} {δ : Type} {r : Ow δ} {d : δ} {f : Own → List Own} {own : α → Own} {post : α → β → Prop} {Φ : β → List Own → Prop} [ho : OwnAt O q r d f] (hp : pre x) (h : ∀ y, post x y → Φ y O) (e : own x = ⟨q, r, d⟩ := by rfl)
    (hT : ∀ P ∈ T, P ∈ B.T := by first | exact fun _ h => h | (intro _ h; cases h)) : SW K B Γ O (sp1 K T ra pre own rb post) [] ra x rb Φ := by
  obtain ⟨j, h1, _⟩ := ho.at_
  have hl : j < O.length := (List.getElem?_eq_some_iff.mp h1).1
  have hg : O[j] = own x := by
    rw [e]
    exact (List.getElem?_eq_some_iff.mp h1).2
  intro σ G H vs W rv Q q'
  have split : O = O.take j ++ own x :: O.drop (j + 1) := by
    rw [← hg]
    exact (List.take_append_drop j O).symm.trans (by rw [List.drop_eq_getElem_cons hl])
  have perm : ∀ v, v ∈ [own x] ++ (O.take j ++ O.drop (j + 1)) ↔ v ∈ O := fun v => by
    have e2 : v ∈ O ↔ v ∈ O.take j ++ own x :: O.drop (j + 1) := by rw [← split]
    rw [e2]
    simp only [List.mem_append, List.mem_cons, List.not_mem_nil, or_false]
    constructor
    · rintro (z | z | z)
      · exact .inr (.inl z)
      · exact .inl z
      · exact .inr (.inr z)
    · rintro (z | z | z)
      · exact .inr (.inl z)
      · exact .inl z
      · exact .inr (.inr z)
  have nd1 : (O.map (·.a)).Nodup → (([own x] ++ (O.take j ++ O.drop (j + 1))).map (·.a)).Nodup := fun z => by
    have e2 : O.map (·.a) = (O.take j).map (·.a) ++ (own x).a :: (O.drop (j + 1)).map (·.a) := by
      have e3 := congrArg (List.map (·.a)) split
      rw [List.map_append, List.map_cons] at e3
      exact e3
    rw [e2] at z
    rw [List.map_append, List.map_append]
    exact ndm.mp z
  have nd2 : (([own x] ++ (O.take j ++ O.drop (j + 1))).map (·.a)).Nodup → (O.map (·.a)).Nodup := fun z => by
    have e2 : O.map (·.a) = (O.take j).map (·.a) ++ (own x).a :: (O.drop (j + 1)).map (·.a) := by
      have e3 := congrArg (List.map (·.a)) split
      rw [List.map_append, List.map_cons] at e3
      exact e3
    rw [e2]
    rw [List.map_append, List.map_append] at z
    exact ndm.mpr z
  exact sw_m (Φ := fun y O' => Φ y O ∧ O' = [own x] ++ (O.take j ++ O.drop (j + 1))) (O.take j ++ O.drop (j + 1)) hp (fun v hv => (perm v).mp hv) nd1 (fun y O' ⟨e2, p⟩ => ⟨h y p, by rw [e2]⟩) hT σ G H vs W rv Q fun z O' u G' H' ⟨k1, k2⟩ W' e' r' => q' z O u G' H' k1 (by
    subst k2
    exact W'.perm (fun v hv => (perm v).mpr hv) nd2) e' r'
end
/-! ### statements -/
section
variable {X : Cx} {K : Fg} {B : Bs} {Γ Γ' : Gm} {O O' : List Own} {α β : Type} {ra : Rp α} {D D0 : Ends} {e c : Expr} {rest sa sb : List Stmt} {n : Str} {pos p apos : Pos}
variable {P : Program} {w : World} {mg : Str → Option Value} {base : Heap} {k : Nat}
theorem s_ifP {x : Bool} (h : DT (Us X) K B Γ O c fun t O' => t = x ∧ O' = O) (h1 : x = true → DS X K B Γ O sa { D with nx := WSs X rest D }) (h2 : x = false → DS X K B Γ O sb { D with nx := WSs X rest D }) : DS X K B Γ O (.If c sa sb pos :: rest) D :=
  s_if (dt_then h ⟨h1, h2⟩)
/-- wanted less -/
structure EndsLe (D0 D : Ends) : Prop where
  nx : ∀ σ H, D0.nx σ H → D.nx σ H
  rt : ∀ v H, D0.rt v H → D.rt v H
  bk : ∀ σ H, D0.bk σ H → D.bk σ H
  ct : ∀ σ H, D0.ct σ H → D.ct σ H
theorem WSs.mono {st : List Stmt} {σ : St} {H : Hp} (le : EndsLe D0 D) (h : WSs X st D0 σ H) : WSs X st D σ H := by
  obtain ⟨t, p, q⟩ := h
  refine ⟨fun D σ H => ∃ D0, t D0 σ H ∧ EndsLe D0 D, ⟨fun pins s σ H D I ⟨D0, q, le⟩ => thn (p.run pins s σ H D0 I q) fun f s' sp => ?_⟩, D0, q, le⟩
  cases f with
  | next =>
    obtain ⟨σ', H', I', z⟩ := sp
    exact ⟨σ', H', I', le.nx _ _ z⟩
  | brk =>
    obtain ⟨σ', H', I', z⟩ := sp
    exact ⟨σ', H', I', le.bk _ _ z⟩
  | cont =>
    obtain ⟨σ', H', I', z⟩ := sp
    exact ⟨σ', H', I', le.ct _ _ z⟩
  | ret u =>
    obtain ⟨v, σ', H', I', r, z⟩ := sp
    exact ⟨v, σ', H', I', r, le.rt _ _ z⟩
/-- the ways behind an if meet: d with Pv -/
theorem s_ifJ {x : Bool} {δ : Type} (Pv : δ → Prop) (Γf : δ → Gm) (Of : δ → List Own) (h : DT (Us X) K B Γ O c fun t O' => t = x ∧ O' = O) (h1 : x = true → DS X K B Γ O sa { D with nx := LpJ K B Pv Γf Of }) (h2 : x = false → DS X K B Γ O sb { D with nx := LpJ K B Pv Γf Of })
    (h3 : ∀ d, Pv d → DS X K B (Γf d) (Of d) rest D) : DS X K B Γ O (.If c sa sb pos :: rest) D := by
  intro σ G H W
  refine WSs.cons (ps_if (tc := WT (Us X) c) (WT.pt (F := Us X) ()) WSs.pss WSs.pss) ?_
  have key : ∀ {σ' : St} {H' : Hp}, LpJ K B Pv Γf Of σ' H' → WSs X rest D σ' H' := fun {σ' H'} ⟨d, G', pd, W'⟩ => h3 d pd σ' G' H' W'
  refine h σ G H W _ fun b O' G' H' ⟨e1, e2⟩ W' _ => ?_
  subst e1 e2
  cases b with
  | true => exact WSs.mono (D0 := { D with nx := LpJ K B Pv Γf Of }) ⟨fun _ _ z => key z, fun _ _ z => z, fun _ _ z => z, fun _ _ z => z⟩ (h1 rfl σ G' H' W')
  | false => exact WSs.mono (D0 := { D with nx := LpJ K B Pv Γf Of }) ⟨fun _ _ z => key z, fun _ _ z => z, fun _ _ z => z, fun _ _ z => z⟩ (h2 rfl σ G' H' W')
theorem s_ifJE {δ : Type} (Pv : δ → Prop) (Γf : δ → Gm) (Of : δ → List Own) (h : DT (Us X) K B Γ O c fun t O' => (t = true → DS X K B Γ O' sa { D with nx := LpJ K B Pv Γf Of }) ∧ (t = false → DS X K B Γ O' sb { D with nx := LpJ K B Pv Γf Of }))
    (h3 : ∀ d, Pv d → DS X K B (Γf d) (Of d) rest D) : DS X K B Γ O (.If c sa sb pos :: rest) D := by
  intro σ G H W
  refine WSs.cons (ps_if (tc := WT (Us X) c) (WT.pt (F := Us X) ()) WSs.pss WSs.pss) ?_
  have key : ∀ {σ' : St} {H' : Hp}, LpJ K B Pv Γf Of σ' H' → WSs X rest D σ' H' := fun {σ' H'} ⟨d, G', pd, W'⟩ => h3 d pd σ' G' H' W'
  refine h σ G H W _ fun b O' G' H' kk W' _ => ?_
  cases b with
  | true => exact WSs.mono (D0 := { D with nx := LpJ K B Pv Γf Of }) ⟨fun _ _ z => key z, fun _ _ z => z, fun _ _ z => z, fun _ _ z => z⟩ (kk.1 rfl σ G' H' W')
  | false => exact WSs.mono (D0 := { D with nx := LpJ K B Pv Γf Of }) ⟨fun _ _ z => key z, fun _ _ z => z, fun _ _ z => z, fun _ _ z => z⟩ (kk.2 rfl σ G' H' W')
/-- the end of a way that meets others -/
theorem s_join {δ : Type} {Pv : δ → Prop} {Γf : δ → Gm} {Of : δ → List Own} (d : δ) (h : Pv d) (hw : Wk Γ (Γf d)) (ho : O = Of d) : DS X K B Γ O [] { D with nx := LpJ K B Pv Γf Of } :=
  s_nil fun σ G H W => ⟨d, G, h, by rw [← ho]; exact W.wk hw⟩
end
end Sk
set_option Elab.async false
set_option linter.all false
set_option maxRecDepth 100000
set_option maxHeartbeats 4100000
/-! Sk7: displays of dicts by written keys, more bounds. -/
namespace Sk
open PySem L2 Evl
theorem valV_none {kvs : List (Key × V)} {k : Key} (h : k ∉ kvs.map (·.1)) : valV kvs k = none := by
  induction kvs with
  | nil => rfl
  | cons p r ih =>
    rw [List.map_cons, List.mem_cons, not_or] at h
    rw [valV_neg (fun z => h.1 z.symm)]
    exact ih h.2
theorem merge_new : ∀ (more acc : List (Key × V)), ((acc ++ more).map (·.1)).Nodup → mergeK acc more = acc ++ more
  | [], acc, _ => by simp [mergeK]
  | p :: r, acc, h => by
    have h2 : ((acc ++ [p] ++ r).map (·.1)).Nodup := by rw [List.append_assoc]; exact h
    have hn : p.1 ∉ acc.map (·.1) := by
      rw [List.map_append, List.map_cons] at h
      intro z
      exact (List.nodup_append.mp h).2.2 _ z _ List.mem_cons_self rfl
    show mergeK (putK acc p.1 p.2) r = acc ++ p :: r
    rw [putK_new _ (valV_none hn), merge_new r _ h2, List.append_assoc]
    rfl
theorem zipK_keys {ns : List Str} {vs : List V} (h : vs.length = ns.length) : (zipK ns vs).map (·.1) = ns.map Sum.inr := by
  unfold zipK
  rw [List.map_fst_zip]
  rw [List.length_map, h]
  exact Nat.le_refl _
theorem merge_zip {ns : List Str} {vs : List V} (hn : ns.Nodup) (h : vs.length = ns.length) : mergeK [] (zipK ns vs) = zipK ns vs := by
  refine merge_new _ _ ?_
  rw [List.nil_append, zipK_keys h]
  clear h
  induction ns with
  | nil => exact List.nodup_nil
  | cons a r ih =>
    rw [List.map_cons]
    refine List.nodup_cons.mpr ⟨fun z => ?_, ih (List.nodup_cons.mp hn).2⟩
    obtain ⟨b, hb, eb⟩ := List.mem_map.mp z
    have eb' : b = a := Sum.inr.inj eb
    exact (List.nodup_cons.mp hn).1 (eb' ▸ hb)
section
variable {ι : Type} {F : ι → Cx} {K : Fg} {B : Bs} {Γ : Gm} {O : List Own} {α β γ : Type} {ra : Rp α} {rb : Rp β} {e : Expr} {es : List Expr} {pos : Pos} {ns : List Str}
def oNil : Ow Unit := ⟨fun _ _ o _ => o = .dK [], fun _ h => h⟩
/-- the values of a display, from the left -/
def DDs (F : ι → Cx) (K : Fg) (B : Bs) (Γ : Gm) (O : List Own) (kes : List (Str × Expr)) (f : RpF α) (Φ : α → List Own → Prop) : Prop :=
  ∀ σ G H, Ws K B Γ O σ G H → ∀ Q : List (V × V) → Hp → Prop, (∀ x O' vs G' H', Φ x O' → Ws K B Γ O' σ G' H' → Ex G G' → f.rep K G' vs x → vs.length = kes.length → Q ((kes.map fun p => V.str p.1).zip vs) H') → tPairs (kes.map fun p => (tC (.str p.1), WE F p.2)) σ H Q
theorem dd_one {key : Str} {Φ : α → List Own → Prop} (h : DW F K B Γ O e ra Φ) : DDs F K B Γ O [(key, e)] (fOne ra) Φ := by
  intro σ G H W Q q
  show WE F e σ H _
  exact h σ G H W _ fun x O1 v G1 H1 k W1 e1 r1 => q x O1 [v] G1 H1 k W1 e1 ⟨v, rfl, r1⟩ rfl
theorem dd_cons {key : Str} {kes : List (Str × Expr)} {f : RpF β} {Φ : α × β → List Own → Prop} (h : DW F K B Γ O e ra fun x O1 => DDs F K B Γ O1 kes f fun y O2 => Φ (x, y) O2) : DDs F K B Γ O ((key, e) :: kes) (fCons ra f) Φ := by
  intro σ G H W Q q
  show WE F e σ H _
  refine h σ G H W _ fun x O1 v G1 H1 k W1 e1 r1 => ?_
  exact k σ G1 H1 W1 _ fun y O2 vs G2 H2 k2 W2 e2 r2 hl => q (x, y) O2 (v :: vs) G2 H2 k2 W2 (e1.trans e2) ⟨v, vs, rfl, ra.mono e2 r1, r2⟩ (by rw [List.length_cons, List.length_cons, hl])
/-- {'key': e, ..}: a new dict of one's own -/
theorem d_disp {keys : List (Option Expr)} {f : RpF α} {Φ : Addr → List Own → Prop} (hn : ns.Nodup) (hp : ∀ i, PPs (F i) pos keys es ((ns.zip es).map fun p => (tC (.str p.1), WE F p.2)))
    (h : ∀ p, p ∉ B.M → DDs F K B Γ (⟨p, oNil, ()⟩ :: O) (ns.zip es) f fun x O1 => ∃ O2, O1 = ⟨p, oNil, ()⟩ :: O2 ∧ Φ p (⟨p, oRec ns f, x⟩ :: O2))
    (hall : keys.all (·.isSome) = true := by rfl) (hl : keys.length = es.length := by rfl) (h0 : keys ≠ [] := by simp) (h15 : keys.length ≤ 15 := by decide) (hk : es.length = ns.length := by rfl) : DW F K B Γ O (.Dict keys es pos) rAdr Φ := by
  intro σ G H W Q q
  refine ⟨_, fun i => pe_disp (hp i) hall hl h0 h15, ?_⟩
  intro p hp'
  refine h p (W.notM hp') σ G _ (W.newOwn hp' (r := oNil) (x := ()) rfl) _ fun x O1 vs G1 H1 ⟨O2, e1, kk⟩ W1 ex r1 hlen => ?_
  subst e1
  obtain ⟨⟨o, h1, h2⟩, _⟩ := W1.own _ List.mem_cons_self
  have h2' : o = .dK [] := h2
  subst h2'
  have hz : (ns.zip es).length = ns.length := by rw [List.length_zip, hk, Nat.min_self]
  have hlen2 : vs.length = ns.length := by rw [hlen, hz]
  refine ⟨h1, zipK ns vs, ?_, ?_, q p _ (.ref p) G1 _ kk (W1.mutHd (r' := oRec ns f) (x' := x) ⟨vs, congrArg HO.dK (merge_zip hn hlen2), r1⟩) ex rfl⟩
  · have e2 : ∀ (ks : List (Str × Expr)) (ws : List V), (ks.map fun p => V.str p.1).zip ws = (zipK (ks.map (·.1)) ws).map fun kv => (kV kv.1, kv.2) := by
      intro ks
      induction ks with
      | nil => intro ws; rfl
      | cons a r ih =>
        intro ws
        cases ws with
        | nil => rfl
        | cons b ws =>
          show (V.str a.1, b) :: _ = (kV (Sum.inr a.1), b) :: _
          exact congrArg _ (ih ws)
    have e3 : (ns.zip es).map (·.1) = ns := List.map_fst_zip (by rw [hk]; exact Nat.le_refl _)
    have e4 := e2 (ns.zip es) vs
    rw [e3] at e4
    exact e4
  · unfold zipK
    rw [List.length_zip, hlen2, List.length_map, Nat.min_self, ← hk, ← hl]
    exact h15
end
/-! a promise of a new own object -/
section
variable {K : Fg} {B : Bs} {Γ : Gm} {O : List Own} {α β δ : Type} {ra : RpF α} {pre : α → Prop} {T : List Addr} {r' : Ow δ} {post : α → δ → Prop}
abbrev spN (K : Fg) (T : List Addr) (ra : RpF α) (pre : α → Prop) (r' : Ow δ) (post : α → δ → Prop) : Sp := spM K T ra pre (fun _ => []) rAdr fun x q O' => ∃ d, post x d ∧ O' = [⟨q, r', d⟩]
theorem sw_n {x : α} {Φ : Addr → List Own → Prop} (hp : pre x) (h : ∀ q d, post x d → Φ q (⟨q, r', d⟩ :: O)) (hT : ∀ P ∈ T, P ∈ B.T := by first | exact fun _ h => h | (intro _ h; cases h)) : SW K B Γ O (spN K T ra pre r' post) [] ra x rAdr Φ :=
  sw_m O hp (fun w hw => hw) (fun z => z) (fun q O' ⟨d, p, e⟩ => by subst e; exact h q d p) hT
end
/-! bounds -/
class Sm (x : Int) : Prop where
  lt : x.natAbs < 2 ^ 8000
theorem smOk {k : Nat} {x : Int} [h : Bd k x] (hk : k ≤ 8000 := by decide) : Sm x := ⟨(h.mono hk).lt⟩
theorem Sm.bd {x : Int} (h : Sm x) : Bd 8000 x := ⟨h.lt⟩
theorem bd_len {α : Type} {xs : List α} (h : xs.length ≤ sizeLine) : Bd 25 (xs.length : Int) := Bd.of (by omega) (by
  have e : sizeLine ≤ 2 ^ 24 := by decide
  omega)
theorem mod_rng (x : Int) {y : Int} (h : 0 < y) : 0 ≤ x % y ∧ x % y < y := ⟨Int.emod_nonneg x (by omega), Int.emod_lt_of_pos x h⟩
theorem atI_lt {α : Type} {xs : List α} {i : Int} (h0 : 0 ≤ i) (h1 : i < (xs.length : Int)) : ∃ x, atI xs i = some x ∧ x ∈ xs ∧ xs[i.toNat]? = some x := by
  have hl : i.toNat < xs.length := by omega
  refine ⟨xs[i.toNat], ?_, List.getElem_mem hl, List.getElem?_eq_getElem hl⟩
  unfold atI
  rw [atI_ok h0 (by omega)]
  exact List.getElem?_eq_getElem hl
theorem atI_getD {α : Type} {xs : List α} {i : Int} (d : α) (h0 : 0 ≤ i) (h1 : i < (xs.length : Int)) : atI xs i = some (xs.getD i.toNat d) := by
  obtain ⟨x, h, _, h2⟩ := atI_lt h0 h1
  rw [h, List.getD_eq_getElem?_getD, h2]
  rfl
end Sk
namespace Sk
open PySem L2 Evl
theorem rt_drop {K : Fg} {B : Bs} {Γ : Gm} {O : List Own} {α : Type} {r : Rp α} {x : α} {D : Ends} (h : RT K B Γ [] r x D) : RT K B Γ O r x D := fun v σ G H W => h v σ G H (W.perm (fun _ z => absurd z (by simp)) fun _ => List.nodup_nil)
theorem rgI_item {lo c : Int} {m i : Nat} {x : Int} (h : (rgI lo c m)[i]? = some x) : i < m ∧ x = lo + (i : Int) * c := by
  have hl := (List.getElem?_eq_some_iff.mp h).1
  rw [rgI_len] at hl
  rw [rgI_get hl] at h
  exact ⟨hl, (Option.some.inj h).symm⟩
/-- a module's whole number -/
theorem d_globI {ι : Type} {F : ι → Cx} {K : Fg} {B : Bs} {Γ : Gm} {O : List Own} {P : Program} {w : World} {mg : Str → Option Value} {base : Heap} {k : Nat} {n : Str} {pos : Pos} [fam : Fam F P w K mg base k] {i : Int} {t : Tok} {Φ : Int → List Own → Prop} (hm : mg n = some (.int i t)) (q : Φ i O)
    (hg : ∀ j, Gl (F j) n := by intro _; rfl) (hd : (n == ("__debug__" : Str)) = false := by decide) : DW F K B Γ O (.Name n pos) rInt Φ := d_glob (v := .int i) hm ⟨t, rfl⟩ (fun _ => rfl) q hg hd
theorem isi_list_list : kitB "list" "list" = some true := by decide +kernel
end Sk
set_option Elab.async false
set_option linter.all false
set_option maxRecDepth 100000
set_option maxHeartbeats 4100000
/-! Sk8: built-in functions by a module's name; math.isqrt. -/
namespace Sk
open PySem L2 Evl
section
variable {ι : Type} {F : ι → Cx} {K : Fg} {B : Bs} {Γ : Gm} {O : List Own} {α β γ : Type} {ra : Rp α} {rb : Rp β} {rc : Rp γ} {e : Expr} {es : List Expr} {pos p : Pos} {n : Str}
variable {P : Program} {w : World} {mg : Str → Option Value} {base : Heap} {k : Nat}
theorem d_callG [fam : Fam F P w K mg base k] {id : String} {g : RpF α} {Φ : γ → List Own → Prop} (hm : mg n = some (.builtin id)) (h : DA F K B Γ O (e :: es) g fun x O1 => CW F K B Γ O1 (.builtin id) g x rc Φ)
    (hg : ∀ i, Gl (F i) n := by intro _; rfl) (hdb : (n == ("__debug__" : Str)) = false := by decide)
    (he : ∀ i, starEach (e :: es) (F i).env = (false, eval e (F i).env) :: starEach es (F i).env := by intro _; rfl) (hpl : ∀ i, (backTo pos (starEach es (F i).env)).any (·.1) = false := by intro _; rfl) :
    DW F K B Γ O (.Call (.Name n p) (e :: es) [] pos) rc Φ := by
  intro σ G H W Q q
  refine ⟨_, fun i => pe_callBfun (wCl.cl i) (hg i) (by rw [fam.mg i]; exact hm) (WA.pa i) hdb (he i) (hpl i), ?_⟩
  refine h σ G H W _ fun x O1 vs G1 H1 k W1 e1 r1 => ?_
  exact k σ G1 H1 vs W1 r1 Q fun z O' u G2 H2 k2 W2 e2 r2 => q z O' u G2 H2 k2 W2 (e1.trans e2) r2
/-- the root, rounded down -/
def sqr (x : Int) : Int := (Float64.isqrt x.toNat : Nat)
theorem sqr_ok {x : Int} (h : 0 ≤ x) : 0 ≤ sqr x ∧ sqr x * sqr x ≤ x ∧ x < (sqr x + 1) * (sqr x + 1) := by
  obtain ⟨n, rfl⟩ := Int.eq_ofNat_of_zero_le h
  obtain ⟨h1, h2⟩ := Float64.isqrt_spec n
  unfold sqr
  rw [Int.toNat_natCast]
  exact ⟨Int.natCast_nonneg _, by exact_mod_cast h1, by exact_mod_cast h2⟩
def rSqrt : List V → Hp → VK → Prop := fun vs H Q => ∃ a : Int, vs = [.int a] ∧ (0 ≤ a ∧ a.toNat.log2 ≤ 13000) ∧ Q (.int (sqr a)) H
theorem cr_sqrt {X : Cx} : CallR X (.builtin "math.isqrt") rSqrt := by
  intro pins s σ H vs us Q I r h
  obtain ⟨a, rfl, ⟨h0, h1⟩, q⟩ := h
  obtain ⟨u, rfl, t, rfl⟩ := vals1 r
  exact call_function_meets PySem.W.MGF.kind_isqrt PySem.W.MGF.plain_isqrt PySem.W.MGF.entry_isqrt (PySem.W.MGF.args_isqrt _) (PySem.W.mg_run_isqrt a t (by omega) (by omega) (by omega)).meets ⟨.int _, H, I.tok _, ⟨_, rfl⟩, q⟩
theorem c_sqrt {x : Int} {b : Nat} [hb : Bd b x] {Φ : Int → List Own → Prop} (h0 : 0 ≤ x) (k : Φ (sqr x) O) (h1 : b ≤ 13000 := by decide) : CW F K B Γ O (.builtin "math.isqrt") (fOne rInt) x rInt Φ :=
  fun σ G H vs W ⟨v, e, rv⟩ Q q => ⟨_, fun _ => cr_sqrt, x, by rw [e, show v = V.int x from rv], ⟨h0, by
    have := log2_le hb
    rw [show x.natAbs = x.toNat by omega] at this
    omega⟩, q _ O _ G H k W (Ex.refl _) rfl⟩
end
end Sk
set_option Elab.async false
set_option linter.all false
set_option maxRecDepth 100000
set_option maxHeartbeats 4100000
/-! Sk9: deep equality, max and min of a list, len of a tuple, slices. -/
namespace Sk
open PySem L2 Evl
/-! ### data that == looks into -/
class Dat {α : Type} (r : Rp α) (enc : outParam (α → PyData)) (n : outParam Nat) (good : outParam (α → Prop)) : Prop where
  dp : ∀ {K : Fg} {G H : Hp} {v : V} {x : α}, Ex G H → r.rep K G v x → Dp K H v (enc x)
  lay : ∀ {x}, good x → PyData.canLay0 (enc x) = true
  dep : ∀ x, (enc x).depth ≤ n
  eqv : ∀ x y, PyData.eqv (enc x) (enc y) = true ↔ x = y
class DatF {α : Type} (f : RpF α) (enc : outParam (α → List PyData)) (n : outParam Nat) (good : outParam (α → Prop)) : Prop where
  dp : ∀ {K : Fg} {G H : Hp} {vs : List V} {x : α}, Ex G H → f.rep K G vs x → DpAll K H vs (enc x)
  lay : ∀ {x}, good x → PyData.canLayAll0 (enc x) = true
  dep : ∀ x, PyData.depthAll (enc x) ≤ n
  eqv : ∀ x y, PyData.eqvAll (enc x) (enc y) = true ↔ x = y
section
variable {α β γ : Type}
instance datInt : Dat rInt PyData.int 0 (fun _ => True) := ⟨fun _ h => by rw [show _ = V.int _ from h]; exact .int _, fun _ => rfl, fun _ => Nat.le_refl _, fun x y => by
  show (x == y) = true ↔ _
  simp⟩
instance datBool : Dat rBool PyData.bool 0 (fun _ => True) := ⟨fun _ h => by rw [show _ = V.bl _ from h]; exact .bl _, fun _ => rfl, fun _ => Nat.le_refl _, fun x y => by
  show (x == y) = true ↔ _
  simp⟩
instance datStr : Dat rStr PyData.str 0 (fun x => PyData.strOk x = true) := ⟨fun _ h => by rw [show _ = V.str _ from h]; exact .str _, fun h => h, fun _ => Nat.le_refl _, fun x y => by
  show (x == y) = true ↔ _
  simp⟩
instance datNon : Dat rNon (fun _ => PyData.none) 0 (fun _ => True) := ⟨fun _ h => by rw [show _ = V.non from h]; exact .non, fun _ => rfl, fun _ => Nat.le_refl _, fun x y => by
  show true = true ↔ _
  simp⟩
theorem all2_dp {r : Rp α} {enc : α → PyData} {n : Nat} {good : α → Prop} (hr : Dat r enc n good) {K : Fg} {G H : Hp} (e : Ex G H) : ∀ {vs : List V} {xs : List α}, All2 (r.rep K G) vs xs → DpAll K H vs (xs.map enc)
  | [], [], _ => .nil
  | _ :: _, _ :: _, ⟨a, b⟩ => .cons (hr.dp e a) (all2_dp hr e b)
  | [], _ :: _, z => z.elim
  | _ :: _, [], z => z.elim
theorem map_lay {r : Rp α} {enc : α → PyData} {n : Nat} {good : α → Prop} (hr : Dat r enc n good) : ∀ {xs : List α}, (∀ x ∈ xs, good x) → PyData.canLayAll0 (xs.map enc) = true
  | [], _ => rfl
  | x :: xs, h => by
    show (PyData.canLay0 (enc x) && PyData.canLayAll0 (xs.map enc)) = true
    rw [hr.lay (h x List.mem_cons_self), map_lay hr fun y hy => h y (List.mem_cons_of_mem _ hy)]
    rfl
theorem map_dep {r : Rp α} {enc : α → PyData} {n : Nat} {good : α → Prop} (hr : Dat r enc n good) : ∀ (xs : List α), PyData.depthAll (xs.map enc) ≤ n
  | [] => Nat.zero_le _
  | x :: xs => by
    show max (enc x).depth (PyData.depthAll (xs.map enc)) ≤ n
    exact Nat.max_le.mpr ⟨hr.dep x, map_dep hr xs⟩
theorem map_eqv {r : Rp α} {enc : α → PyData} {n : Nat} {good : α → Prop} (hr : Dat r enc n good) : ∀ (xs ys : List α), PyData.eqvAll (xs.map enc) (ys.map enc) = true ↔ xs = ys
  | [], [] => by simp [PyData.eqvAll]
  | [], _ :: _ => by simp [PyData.eqvAll]
  | _ :: _, [] => by simp [PyData.eqvAll]
  | x :: xs, y :: ys => by
    show (PyData.eqv (enc x) (enc y) && PyData.eqvAll (xs.map enc) (ys.map enc)) = true ↔ _
    rw [Bool.and_eq_true, hr.eqv, map_eqv hr xs ys]
    simp
instance datLst {r : Rp α} {enc : α → PyData} {n : Nat} {good : α → Prop} [hr : Dat r enc n good] : Dat (rLst r) (fun xs => PyData.list (xs.map enc)) (n + 1) (fun xs => ∀ x ∈ xs, good x) :=
  ⟨fun e ⟨a, vs, h1, h2, h3⟩ => by rw [h1]; exact .lst (SqL.of (e _ _ h2)) (all2_dp hr e h3), fun h => by show PyData.canLayAll0 _ = true; exact map_lay hr h, fun xs => by show PyData.depthAll _ + 1 ≤ n + 1; exact Nat.succ_le_succ (map_dep hr xs), fun xs ys => by show PyData.eqvAll _ _ = true ↔ _; exact map_eqv hr xs ys⟩
instance datSeq {r : Rp α} {enc : α → PyData} {n : Nat} {good : α → Prop} [hr : Dat r enc n good] : Dat (rSeq r) (fun xs => PyData.list (xs.map enc)) (n + 1) (fun xs => ∀ x ∈ xs, good x) :=
  ⟨fun e ⟨a, vs, h1, h2, h3⟩ => by rw [h1]; exact .lst (ex_l e h2) (all2_dp hr e h3), fun h => by show PyData.canLayAll0 _ = true; exact map_lay hr h, fun xs => by show PyData.depthAll _ + 1 ≤ n + 1; exact Nat.succ_le_succ (map_dep hr xs), fun xs ys => by show PyData.eqvAll _ _ = true ↔ _; exact map_eqv hr xs ys⟩
instance datTpv {r : Rp α} {enc : α → PyData} {n : Nat} {good : α → Prop} [hr : Dat r enc n good] : Dat (rTpv r) (fun xs => PyData.tuple (xs.map enc)) (n + 1) (fun xs => ∀ x ∈ xs, good x) :=
  ⟨fun e ⟨a, vs, h1, h2, h3⟩ => by rw [h1]; exact .tup (ex_t e h2) (all2_dp hr e h3), fun h => by show PyData.canLayAll0 _ = true; exact map_lay hr h, fun xs => by show PyData.depthAll _ + 1 ≤ n + 1; exact Nat.succ_le_succ (map_dep hr xs), fun xs ys => by show PyData.eqvAll _ _ = true ↔ _; exact map_eqv hr xs ys⟩
instance datOne {r : Rp α} {enc : α → PyData} {n : Nat} {good : α → Prop} [hr : Dat r enc n good] : DatF (fOne r) (fun x => [enc x]) n good :=
  ⟨fun e ⟨v, h1, h2⟩ => by rw [h1]; exact .cons (hr.dp e h2) .nil, fun h => by show (PyData.canLay0 _ && true) = true; rw [hr.lay h]; rfl, fun x => by show max _ 0 ≤ n; exact Nat.max_le.mpr ⟨hr.dep x, Nat.zero_le _⟩, fun x y => by
    show (PyData.eqv _ _ && true) = true ↔ _
    rw [Bool.and_true]
    exact hr.eqv x y⟩
instance datCons {r : Rp α} {enc : α → PyData} {n m : Nat} {good : α → Prop} {f : RpF β} {enc' : β → List PyData} {good' : β → Prop} [hr : Dat r enc n good] [hf : DatF f enc' m good'] : DatF (fCons r f) (fun x => enc x.1 :: enc' x.2) (max n m) (fun x => good x.1 ∧ good' x.2) :=
  ⟨fun e ⟨v, ws, h1, h2, h3⟩ => by rw [h1]; exact .cons (hr.dp e h2) (hf.dp e h3), fun h => by show (PyData.canLay0 _ && PyData.canLayAll0 _) = true; rw [hr.lay h.1, hf.lay h.2]; rfl,
   fun x => by show max _ _ ≤ _; exact Nat.max_le.mpr ⟨Nat.le_trans (hr.dep x.1) (Nat.le_max_left _ _), Nat.le_trans (hf.dep x.2) (Nat.le_max_right _ _)⟩, fun x y => by
    show (PyData.eqv _ _ && PyData.eqvAll _ _) = true ↔ _
    rw [Bool.and_eq_true, hr.eqv, hf.eqv]
    exact Prod.ext_iff.symm⟩
instance datTup {f : RpF β} {enc : β → List PyData} {m : Nat} {good : β → Prop} [hf : DatF f enc m good] : Dat (rTup f) (fun x => PyData.tuple (enc x)) (m + 1) good :=
  ⟨fun e ⟨a, vs, h1, h2, h3⟩ => by rw [h1]; exact .tup (ex_t e h2) (hf.dp e h3), fun h => hf.lay h, fun x => by show PyData.depthAll _ + 1 ≤ m + 1; exact Nat.succ_le_succ (hf.dep x), fun x y => by show PyData.eqvAll _ _ = true ↔ _; exact hf.eqv x y⟩
variable {ι : Type} {F : ι → Cx} {K : Fg} {B : Bs} {Γ : Gm} {O : List Own} {ra : Rp α} {rb : Rp β} {e : Expr} {es : List Expr} {pos p : Pos} {n : Str}
variable {P : Program} {w : World} {mg : Str → Option Value} {base : Heap} {k : Nat}
/-- of the value only Pp is kept -/
theorem d_abs (Pp : α → Prop) {Φ : α → List Own → Prop} (kk : ∀ x, Pp x → Φ x O) (h : DW F K B Γ O e ra fun x O' => Pp x ∧ O' = O) : DW F K B Γ O e ra Φ := d_mono h fun x O' ⟨e1, e2⟩ => by
  subst e2
  exact kk x e1
theorem shp {r : Rp α} {enc : α → PyData} {n : Nat} {good : α → Prop} (hr : Dat r enc n good) {x : α} (h : good x) (hn : n ≤ 64) : SeqAt.shaped (enc x) = true := by
  unfold SeqAt.shaped
  rw [hr.lay h, decide_eq_true (Nat.le_trans (hr.dep x) hn)]
  rfl
theorem o_eqD [fam : Fam F P w K mg base k] {enc : α → PyData} {n : Nat} {good : α → Prop} [hr : Dat ra enc n good] [DecidableEq α] {x y : α} {Ψ : Bool → List Own → Prop} (hx : good x) (hy : good y) (kk : Ψ (decide (x = y)) O) (hn : n ≤ 64 := by decide) : OW F K B Γ O (compareOp .Eq) ra ra x y rBool Ψ := fun σ G H v w W rv rw Q q =>
  ⟨rEqD K, fun j => by rw [← fam.ka j]; exact op_eqD (by have := (fam.rm j).units; omega), enc x, enc y, hr.dp W.sub rv, hr.dp W.sub rw, shp hr hx hn, shp hr hy hn, q _ O _ G H kk W (Ex.refl _) (by
    refine congrArg V.bl ?_
    by_cases z : x = y
    · rw [decide_eq_true z, (hr.eqv x y).mpr z]
    · rw [decide_eq_false z]
      exact Bool.eq_false_iff.mpr fun z2 => z ((hr.eqv x y).mp z2))⟩
/-! ### max and min of a list, len of a tuple -/
theorem c_maxL {xs : List Int} {Φ : Int → List Own → Prop} (h0 : 0 < xs.length) (kk : ∀ m, m ∈ xs → (∀ y ∈ xs, y ≤ m) → Φ m O) (hK : ∀ j, (F j).K = K := by intro _; rfl) (hc : ∀ j, (F j).calm = true := by intro _; rfl) : CW F K B Γ O (.builtin "max") (fOne (rLst rInt)) xs rInt Φ :=
  fun σ G H vs W ⟨v, e, a, ws, h1, h2, h3⟩ Q q => ⟨rMax K, fun j => by rw [← hK j]; exact cr_max (hc j), a, xs, by rw [e, h1], SqL.of (W.sub _ _ (by rw [← All2.map_int h3]; exact h2)), h0, fun m hm1 hm2 => q _ O _ G H (kk m hm1 hm2) W (Ex.refl _) rfl⟩
end
theorem atI_last {α : Type} {l : List α} {x : α} (h : l.getLast? = some x) : atI l (-1) = some x := by
  cases l with
  | nil => simp at h
  | cons a r =>
    rw [List.getLast?_eq_getElem?] at h
    unfold atI ixN
    rw [if_neg (by omega), if_pos (by rw [List.length_cons]; omega)]
    show (a :: r)[((((a :: r).length : Nat) : Int) + -1).toNat]? = some x
    rw [show ((((a :: r).length : Nat) : Int) + -1).toNat = (a :: r).length - 1 by rw [List.length_cons]; omega]
    exact h
end Sk
set_option Elab.async false
set_option linter.all false
set_option maxRecDepth 100000
set_option maxHeartbeats 4100000
/-! Sk10: lists of any kind (pure, own): slices, stars, concatenation, methods; retyped slots; any, all. -/
namespace Sk
open PySem L2 Evl
/-! ### what reads as a list -/
class LsR {α : Type} (O : List Own) (ra : Rp α) (x : α) {β : outParam Type} (r : outParam (Rp β)) (xs : outParam (List β)) : Prop where
  get : ∀ {K : Fg} {B : Bs} {Γ : Gm} {σ : St} {G H : Hp} {v : V}, Ws K B Γ O σ G H → ra.rep K G v x → ∃ p vs, v = .ref p ∧ SqL K H p vs ∧ All2 (r.rep K G) vs xs
/-- and is no kept list of the module -/
class LsH {α : Type} (O : List Own) (ra : Rp α) (x : α) {β : outParam Type} (r : outParam (Rp β)) (xs : outParam (List β)) : Prop where
  get : ∀ {K : Fg} {B : Bs} {Γ : Gm} {σ : St} {G H : Hp} {v : V}, Ws K B Γ O σ G H → ra.rep K G v x → ∃ p vs, v = .ref p ∧ H p = some (.lst vs) ∧ All2 (r.rep K G) vs xs
section
variable {α β γ : Type}
instance lsrL {O : List Own} {r : Rp β} {xs : List β} : LsR O (rLst r) xs r xs := ⟨fun W ⟨a, vs, h1, h2, h3⟩ => ⟨a, vs, h1, SqL.of (W.sub _ _ h2), h3⟩⟩
instance lsrS {O : List Own} {r : Rp β} {xs : List β} : LsR O (rSeq r) xs r xs := ⟨fun W ⟨a, vs, h1, h2, h3⟩ => ⟨a, vs, h1, ex_l W.sub h2, h3⟩⟩
instance lsrO {O : List Own} {q : Addr} {r : Rp β} {xs : List β} {f : Own → List Own} [h : OwnAt O q (oLst r) xs f] : LsR O rAdr q r xs := ⟨fun W e => by
  obtain ⟨u, h2, ws, h3, h4⟩ := W.ownO h
  subst h3
  exact ⟨q, ws, e, SqL.of h2, h4⟩⟩
instance lshL {O : List Own} {r : Rp β} {xs : List β} : LsH O (rLst r) xs r xs := ⟨fun W ⟨a, vs, h1, h2, h3⟩ => ⟨a, vs, h1, W.sub _ _ h2, h3⟩⟩
instance lshO {O : List Own} {q : Addr} {r : Rp β} {xs : List β} {f : Own → List Own} [h : OwnAt O q (oLst r) xs f] : LsH O rAdr q r xs := ⟨fun W e => by
  obtain ⟨u, h2, ws, h3, h4⟩ := W.ownO h
  subst h3
  exact ⟨q, ws, e, h2, h4⟩⟩
variable {ι : Type} {F : ι → Cx} {K : Fg} {B : Bs} {Γ : Gm} {O : List Own} {ra : Rp α} {rb : Rp β} {rc : Rp γ} {e a b o : Expr} {es : List Expr} {lo hi : Option Expr} {pos p p2 apos : Pos} {n : Str}
variable {P : Program} {w : World} {mg : Str → Option Value} {base : Heap} {k : Nat}
theorem c_lenG {xs : List β} {x : α} [hl : LsR O ra x rb xs] {Φ : Int → List Own → Prop} (kk : Φ (xs.length : Int) O) (hK : ∀ j, (F j).K = K := by intro _; rfl) : CW F K B Γ O (.builtin "len") (fOne ra) x rInt Φ :=
  fun σ G H vs W ⟨v, e, rv⟩ Q q' => by
    obtain ⟨c, ws, h1, h2, h3⟩ := hl.get W rv
    exact ⟨fun xs H Q => ∃ p ys, xs = [.ref p] ∧ (SqL K H p ys ∨ SqT K H p ys) ∧ Q (.int ys.length) H, fun j => by rw [← hK j]; exact call_len_seq, c, ws, by rw [e, h1], .inl h2, q' _ O _ G H kk W (Ex.refl _) (by rw [h3.length]; rfl)⟩
theorem i_ls {xs : List β} {x : α} {y : β} {i : Int} [hl : LsR O ra x rb xs] {Φ : β → List Own → Prop} (h : atI xs i = some y) (kk : Φ y O) (hK : ∀ j, (F j).K = K := by intro _; rfl) : IW F K B Γ O ra rInt x i rb Φ := by
  intro σ G H v w W rv rw Q q'
  obtain ⟨c, ws, h1, h2, h3⟩ := hl.get W rv
  unfold atI at h
  obtain ⟨j, h5, h6⟩ := Option.bind_eq_some_iff.mp h
  obtain ⟨u, h7, h8⟩ := h3.get' h6
  refine ⟨rIxL K, fun j => by rw [← hK j]; exact ix_list, c, ws, i, u, h1, rw, h2, ?_, q' y O u G H kk W (Ex.refl _) h8⟩
  unfold atI
  rw [h3.length, h5]
  exact h7
theorem c_maxG {xs : List Int} {x : α} [hl : LsR O ra x rInt xs] {Φ : Int → List Own → Prop} (h0 : 0 < xs.length) (kk : ∀ m, m ∈ xs → (∀ y ∈ xs, y ≤ m) → Φ m O) (hK : ∀ j, (F j).K = K := by intro _; rfl) (hc : ∀ j, (F j).calm = true := by intro _; rfl) : CW F K B Γ O (.builtin "max") (fOne ra) x rInt Φ :=
  fun σ G H vs W ⟨v, e, rv⟩ Q q' => by
    obtain ⟨c, ws, h1, h2, h3⟩ := hl.get W rv
    exact ⟨rMax K, fun j => by rw [← hK j]; exact cr_max (hc j), c, xs, by rw [e, h1], by rw [← All2.map_int h3]; exact h2, h0, fun m hm1 hm2 => q' _ O _ G H (kk m hm1 hm2) W (Ex.refl _) rfl⟩
theorem c_minG {xs : List Int} {x : α} [hl : LsR O ra x rInt xs] {Φ : Int → List Own → Prop} (h0 : 0 < xs.length) (kk : ∀ m, m ∈ xs → (∀ y ∈ xs, m ≤ y) → Φ m O) (hK : ∀ j, (F j).K = K := by intro _; rfl) (hc : ∀ j, (F j).calm = true := by intro _; rfl) : CW F K B Γ O (.builtin "min") (fOne ra) x rInt Φ :=
  fun σ G H vs W ⟨v, e, rv⟩ Q q' => by
    obtain ⟨c, ws, h1, h2, h3⟩ := hl.get W rv
    exact ⟨rMin K, fun j => by rw [← hK j]; exact cr_min (hc j), c, xs, by rw [e, h1], by rw [← All2.map_int h3]; exact h2, h0, fun m hm1 hm2 => q' _ O _ G H (kk m hm1 hm2) W (Ex.refl _) rfl⟩
theorem All2.map_bl : ∀ {vs : List V} {xs : List Bool}, All2 (fun v x => v = .bl x) vs xs → vs = xs.map V.bl
  | [], [], _ => rfl
  | _ :: _, _ :: _, ⟨a, b⟩ => by
    rw [a, All2.map_bl b]
    rfl
  | [], _ :: _, z => z.elim
  | _ :: _, [], z => z.elim
theorem c_anyG {xs : List Bool} {x : α} [hl : LsR O ra x rBool xs] {Φ : Bool → List Own → Prop} (kk : Φ (xs.any id) O) (hK : ∀ j, (F j).K = K := by intro _; rfl) (hc : ∀ j, (F j).calm = true := by intro _; rfl) : CW F K B Γ O (.builtin "any") (fOne ra) x rBool Φ :=
  fun σ G H vs W ⟨v, e, rv⟩ Q q' => by
    obtain ⟨c, ws, h1, h2, h3⟩ := hl.get W rv
    exact ⟨L2.rAny K, fun j => by rw [← hK j]; exact cr_any (hc j), c, xs, by rw [e, h1], by rw [← All2.map_bl h3]; exact h2, q' _ O _ G H kk W (Ex.refl _) rfl⟩
/-! ### slices -/
def WO (F : ι → Cx) (e : Option Expr) : TO := fun σ H Q => ∃ t, (∀ i, PO (F i) e t) ∧ t σ H Q
theorem WO.po {e : Option Expr} (i : ι) : PO (F i) e (WO F e) := ⟨fun pins s σ H Q I ⟨_, p, q⟩ => (p i).run pins s σ H Q I q⟩
def wSl (F : ι → Cx) : V → Option Int → Option Int → Hp → VK → Prop := fun x l h H Q => ∃ r, (∀ i, SlR (F i) r) ∧ r x l h H Q
theorem wSl.sl (i : ι) : SlR (F i) (wSl F) := fun pins s σ H x v vl vu lo hi sl Q I rx hs pl pu ⟨_, p, q⟩ => p i pins s σ H x v vl vu lo hi sl Q I rx hs pl pu q
def DO (F : ι → Cx) (K : Fg) (B : Bs) (Γ : Gm) (O : List Own) (e : Option Expr) (Φ : Option Int → List Own → Prop) : Prop :=
  ∀ σ G H, Ws K B Γ O σ G H → ∀ Q : Option Int → Hp → Prop, (∀ x O' G' H', Φ x O' → Ws K B Γ O' σ G' H' → Ex G G' → Q x H') → WO F e σ H Q
theorem do_no {Φ : Option Int → List Own → Prop} (kk : Φ none O) : DO F K B Γ O none Φ := fun σ G H W Q q => ⟨_, fun _ => po_none, q none O G H kk W (Ex.refl _)⟩
theorem do_at {Φ : Option Int → List Own → Prop} (h : DW F K B Γ O e rInt fun i O1 => Φ (some i) O1) : DO F K B Γ O (some e) Φ := by
  intro σ G H W Q q
  refine ⟨_, fun i => po_some (WE.pe i), ?_⟩
  exact h σ G H W _ fun x O1 v G1 H1 kk W1 e1 r1 => ⟨x, r1, q _ O1 G1 H1 kk W1 e1⟩
def SLW (F : ι → Cx) (K : Fg) (B : Bs) (Γ : Gm) (O : List Own) (ra : Rp α) (x : α) (l h : Option Int) (rc : Rp γ) (Φ : γ → List Own → Prop) : Prop :=
  ∀ σ G H v, Ws K B Γ O σ G H → ra.rep K G v x → ∀ Q : VK, (∀ z O' u G' H', Φ z O' → Ws K B Γ O' σ G' H' → Ex G G' → rc.rep K G' u z → Q u H') → wSl F v l h H Q
theorem d_slice {Φ : γ → List Own → Prop} (h : DW F K B Γ O e ra fun x O1 => DO F K B Γ O1 lo fun l O2 => DO F K B Γ O2 hi fun u O3 => SLW F K B Γ O3 ra x l u rc Φ) : DW F K B Γ O (.Subscript e (.Slice lo hi none p2) pos) rc Φ := by
  intro σ G H W Q q
  refine ⟨_, fun i => pe_slice (wSl.sl i) (WE.pe i) (WO.po i) (WO.po i), ?_⟩
  refine h σ G H W _ fun x O1 v G1 H1 h1 W1 e1 r1 => ?_
  refine h1 σ G1 H1 W1 _ fun l O2 G2 H2 h2 W2 e2 => ?_
  refine h2 σ G2 H2 W2 _ fun u O3 G3 H3 h3 W3 e3 => ?_
  exact h3 σ G3 H3 v W3 (ra.mono (e2.trans e3) r1) Q fun z O' u G' H' kk W' e' r' => q z O' u G' H' kk W' (((e1.trans e2).trans e3).trans e') r'
def cutL {α : Type} (xs : List α) (lo hi : Option Int) : List α := (xs.drop (HT.sIx xs.length 0 lo)).take (HT.sIx xs.length xs.length hi - HT.sIx xs.length 0 lo)
theorem cut_all2 {p : V → α → Prop} {vs : List V} {xs : List α} (h : All2 p vs xs) (lo hi : Option Int) : All2 p (cutV vs lo hi) (cutL xs lo hi) := by
  unfold cutV cutL
  rw [h.length]
  exact (h.drop _).take _
theorem sl_l {xs : List β} {x : α} {l h : Option Int} [hl : LsR O ra x rb xs] {Φ : List β → List Own → Prop} (kk : Φ (cutL xs l h) O) (hK : ∀ j, (F j).K = K := by intro _; rfl) : SLW F K B Γ O ra x l h (rLst rb) Φ := by
  intro σ G H v W rv Q q
  obtain ⟨c, ws, h1, h2, h3⟩ := hl.get W rv
  refine ⟨rSlL K, fun j => by rw [← hK j]; exact sl_list, c, ws, h1, h2, fun p hp => ?_⟩
  have s : Stp B.T [] G H (upd G p (.lst (cutV ws l h))) (upd H p (.lst (cutV ws l h))) := Stp.new W.sub hp
  exact q _ O _ _ _ kk (W.step s) s.g ⟨p, _, rfl, upd_same, (cut_all2 h3 l h).mono fun _ _ z => rb.mono s.g z⟩
/-- a tuple's slice, not the whole -/
theorem sl_t {xs : List β} {l h : Option Int} {Φ : List β → List Own → Prop} (hw : ¬ (HT.sIx xs.length 0 l = 0 ∧ HT.sIx xs.length xs.length h = xs.length)) (kk : Φ (cutL xs l h) O) (hK : ∀ j, (F j).K = K := by intro _; rfl) : SLW F K B Γ O (rTpv rb) xs l h (rTpv rb) Φ := by
  intro σ G H v W ⟨c, ws, h1, h2, h3⟩ Q q
  refine ⟨rSlT K, fun j => by rw [← hK j]; exact sl_tup, c, ws, h1, ex_t W.sub h2, by rw [h3.length]; exact hw, fun p hp => ?_⟩
  have s : Stp B.T [] G H (upd G p (.tup (cutV ws l h))) (upd H p (.tup (cutV ws l h))) := Stp.new W.sub hp
  exact q _ O _ _ _ kk (W.step s) s.g ⟨p, _, rfl, SqT.of upd_same, (cut_all2 h3 l h).mono fun _ _ z => rb.mono s.g z⟩
/-! ### stars, concatenation, list(xs) -/
theorem da_star [fam : Fam F P w K mg base k] {Φ : List β → List Own → Prop} (h : DW F K B Γ O e ra fun x O1 => ∃ xs, LsR O1 ra x rb xs ∧ DA F K B Γ O1 es (fAll rb) fun ys O2 => Φ (xs ++ ys) O2)
    (hs : ∀ i, starEach (.Starred e p :: es) (F i).env = (true, eval e (F i).env) :: starEach es (F i).env := by intro _; rfl) : DA F K B Γ O (.Starred e p :: es) (fAll rb) Φ := by
  intro σ G H W Q q
  refine ⟨StX.tStar K (WE F e) (WA F es), fun i => by rw [← fam.ka i]; exact StX.pa_star (WE.pe i) (WA.pa i) (hs i), ?_⟩
  refine h σ G H W _ fun x O1 v G1 H1 ⟨xs, hl, kk⟩ W1 e1 r1 => ?_
  obtain ⟨c, ws, h1, h2, h3⟩ := hl.get W1 r1
  refine ⟨c, ws, h1, .inr h2, ?_⟩
  exact kk σ G1 H1 W1 _ fun ys O2 vs G2 H2 k2 W2 e2 r2 => q _ O2 _ G2 H2 k2 W2 (e1.trans e2) ((h3.mono fun _ _ z => rb.mono e2 z).append r2)
theorem o_cat {xs ys : List γ} {x : α} {y : β} [h1 : LsH O ra x rc xs] [h2 : LsH O rb y rc ys] {Φ : List γ → List Own → Prop} (hz : xs.length + ys.length ≤ sizeLine) (kk : Φ (xs ++ ys) O) : OW F K B Γ O (binaryOp .Add) ra rb x y (rLst rc) Φ := by
  intro σ G H v u W rv ru Q q
  obtain ⟨c, vs, a1, a2, a3⟩ := h1.get W rv
  obtain ⟨d, us, b1, b2, b3⟩ := h2.get W ru
  refine ⟨_, fun _ => op_cat, c, d, vs, us, a1, b1, a2, b2, by rw [a3.length, b3.length]; exact hz, fun p hp => ?_⟩
  have s : Stp B.T [] G H (upd G p (.lst (vs ++ us))) (upd H p (.lst (vs ++ us))) := Stp.new W.sub hp
  exact q _ O _ _ _ kk (W.step s) s.g ⟨p, _, rfl, upd_same, (a3.append b3).mono fun _ _ z => rc.mono s.g z⟩
theorem c_list {xs : List β} {x : α} [hl : LsR O ra x rb xs] {Φ : List β → List Own → Prop} (kk : Φ xs O) (hK : ∀ j, (F j).K = K := by intro _; rfl) : CW F K B Γ O (.type "list") (fOne ra) x (rLst rb) Φ :=
  fun σ G H vs W ⟨v, e, rv⟩ Q q => by
    obtain ⟨c, ws, h1, h2, h3⟩ := hl.get W rv
    refine ⟨fun xs H Q => ∃ p ys, xs = [.ref p] ∧ (SqL K H p ys ∨ SqT K H p ys) ∧ ∀ l, H l = none → Q (.ref l) (upd H l (.lst ys)), fun j => by rw [← hK j]; exact call_list_of, c, ws, by rw [e, h1], .inl h2, fun p hp => ?_⟩
    have s : Stp B.T [] G H (upd G p (.lst ws)) (upd H p (.lst ws)) := Stp.new W.sub hp
    exact q _ O _ _ _ kk (W.step s) s.g ⟨p, _, rfl, upd_same, h3.mono fun _ _ z => rb.mono s.g z⟩
/-- tuple(xs) of a list -/
theorem c_tuple {xs : List β} {x : α} [hl : LsR O ra x rb xs] {Φ : List β → List Own → Prop} (kk : Φ xs O) (hK : ∀ j, (F j).K = K := by intro _; rfl) : CW F K B Γ O (.type "tuple") (fOne ra) x (rTpv rb) Φ :=
  fun σ G H vs W ⟨v, e, rv⟩ Q q => by
    obtain ⟨c, ws, h1, h2, h3⟩ := hl.get W rv
    refine ⟨fun xs H Q => ∃ p ys, xs = [.ref p] ∧ ((SqL K H p ys ∧ ∀ l, H l = none → Q (.ref l) (upd H l (.tup ys))) ∨ (SqT K H p ys ∧ Q (.ref p) H)), fun j => by rw [← hK j]; exact call_tuple_of, c, ws, by rw [e, h1], .inl ⟨h2, fun p hp => ?_⟩⟩
    have s : Stp B.T [] G H (upd G p (.tup ws)) (upd H p (.tup ws)) := Stp.new W.sub hp
    exact q _ O _ _ _ kk (W.step s) s.g ⟨p, _, rfl, SqT.of upd_same, h3.mono fun _ _ z => rb.mono s.g z⟩
/-! ### methods of an own list -/
theorem d_ext [fam : Fam F P w K mg base k] {Φ : Unit → List Own → Prop} (h : DW F K B Γ O o rAdr fun q O1 => ∃ xs1 f1, OwnAt O1 q (oLst rc) xs1 f1 ∧ DW F K B Γ O1 e rb fun y O2 => ∃ xs f zs, OwnAt O2 q (oLst rc) xs f ∧ LsH O2 rb y rc zs ∧ xs.length + zs.length ≤ sizeLine ∧ Φ () (f ⟨q, oLst rc, xs ++ zs⟩))
    (hbase : ∀ j, attributeBase o "extend" (F j).env (eval o (F j).env) = eval o (F j).env := by intro _; rfl)
    (hfew : ∀ j, ((backTo pos (starEach [e] (F j).env)).all (fun x => !x.1) && (backToKw pos (keywordEach [] (F j).env)).all (fun x => x.1.isSome)
      && decide ([e].length + ([] : List Keyword).length + (if ([] : List Keyword).isEmpty then 0 else 1) < 30)) = true := by intro _; rfl)
    (hline : (apos.endLine == pos.line) = true := by rfl) (hs : ∀ j, starEach [e] (F j).env = (false, eval e (F j).env) :: starEach [] (F j).env := by intro _; rfl) :
    DW F K B Γ O (.Call (.Attribute o "extend" apos) [e] [] pos) rNon Φ := by
  refine d_bm (ra := rAdr) (f := fOne rb) PySem.F.plainAttrs_list PySem.F.slot_list_extend PySem.F.type_list_extend (fun j => mt_extend) ?_ hbase hfew hline hs (fun _ => rfl)
  refine d_mono h fun q O1 ⟨xs1, f1, hO1, h1⟩ => ⟨tyO hO1, da_one (d_mono h1 fun y O2 ⟨xs, f, zs, hO, hZ, hl, kk⟩ => ?_) hs⟩
  intro σ G H v vs W rv ⟨u, e1, ru⟩ Q q'
  obtain ⟨ob, h2, ws, h3, h4⟩ := W.ownO hO
  subst h3
  obtain ⟨c, us, b1, b2, b3⟩ := hZ.get W ru
  refine ⟨q, c, ws, us, rv, by rw [e1, b1], h2, b2, by rw [h4.length, b3.length]; exact hl, q' () _ .non G _ kk ?_ (Ex.refl _) rfl⟩
  exact W.mutO (h := hO) (r' := oLst rc) (x' := xs ++ zs) ⟨ws ++ us, rfl, h4.append b3⟩
/-! ### x == y: an own list of plain things and a list -/
/-! ### a thing or None -/
class NotNon (r : Rp α) : Prop where
  ne : ∀ {K : Fg} {G : Hp} {v : V} {x : α}, r.rep K G v x → v ≠ .non
instance : NotNon rInt := ⟨fun h z => by rw [show _ = V.int _ from h] at z; cases z⟩
instance : NotNon rBool := ⟨fun h z => by rw [show _ = V.bl _ from h] at z; cases z⟩
instance : NotNon rStr := ⟨fun h z => by rw [show _ = V.str _ from h] at z; cases z⟩
instance {r : Rp α} : NotNon (rLst r) := ⟨fun ⟨a, _, h, _⟩ z => by rw [h] at z; cases z⟩
instance {r : Rp α} : NotNon (rSeq r) := ⟨fun ⟨a, _, h, _⟩ z => by rw [h] at z; cases z⟩
instance {r : Rp α} : NotNon (rTpv r) := ⟨fun ⟨a, _, h, _⟩ z => by rw [h] at z; cases z⟩
instance {f : RpF α} : NotNon (rTup f) := ⟨fun ⟨a, _, h, _⟩ z => by rw [h] at z; cases z⟩
instance {ns : List Str} {f : RpF α} : NotNon (rRec ns f) := ⟨fun ⟨a, _, h, _⟩ z => by rw [h] at z; cases z⟩
theorem opt_some {r : Rp α} [hn : NotNon r] {K : Fg} {G : Hp} {v : V} {x : α} (h : r.rep K G v x) : (rOpt r).rep K G v (some x) := ⟨hn.ne h, h⟩
theorem d_some [hn : NotNon ra] {Φ : Option α → List Own → Prop} (h : DW F K B Γ O e ra fun x O' => Φ (some x) O') : DW F K B Γ O e (rOpt ra) Φ := fun σ G H W Q q =>
  h σ G H W Q fun x O' v G' H' kk W' e' hv => q (some x) O' v G' H' kk W' e' (opt_some hv)
end
section
variable {X : Cx} {K : Fg} {B : Bs} {Γ Γ' : Gm} {O O' : List Own} {α β γ : Type} {ra : Rp α} {rb : Rp β} {rc : Rp γ} {D : Ends} {rest : List Stmt} {e o i : Expr} {pos tpos : Pos}
variable {P : Program} {w : World} {mg : Str → Option Value} {base : Heap} {k : Nat}
/-- a slot seen as another kind of thing -/
theorem s_re (j : Nat) {x : α} {y : β} {f : Option Slot → Gm} [hA : At Γ j ra x] [hg : SetG Γ j f] (hc : ∀ {K : Fg} {G : Hp} {v : V}, ra.rep K G v x → rb.rep K G v y) (h : DS X K B (f (some ⟨rb, y⟩)) O rest D) : DS X K B Γ O rest D := fun σ G H W => by
  obtain ⟨u, h3, h4⟩ := W.env.get hA.get
  have W3 := W.set (s := ⟨rb, y⟩) j (u := u) (hc h4)
  have e2 : σ.set j (some u) = σ := by
    refine List.ext_getElem? fun l => ?_
    by_cases hj : j = l
    · subst hj
      rw [List.getElem?_set_self (List.getElem?_eq_some_iff.mp h3).1, h3]
    · rw [List.getElem?_set_ne hj]
  rw [e2, ← hg.eq] at W3
  exact h σ G H W3
/-- a slot that is not None -/
theorem s_some (j : Nat) {x : α} {f : Option Slot → Gm} [hA : At Γ j (rOpt ra) (some x)] [hg : SetG Γ j f] (h : DS X K B (f (some ⟨ra, x⟩)) O rest D) : DS X K B Γ O rest D := s_re (ra := rOpt ra) (x := some x) (rb := ra) j (fun h => h.2) h
/-- own list [i] = e -/
theorem s_setI [fam : Fam (Us X) P w K mg base k] (h : DW (Us X) K B Γ O e rc fun y O1 => DW (Us X) K B Γ O1 o rAdr fun q O2 => DW (Us X) K B Γ O2 i rInt fun n O3 => ∃ xs f, OwnAt O3 q (oLst rc) xs f ∧ (0 ≤ n ∧ n < (xs.length : Int)) ∧ DS X K B Γ (f ⟨q, oLst rc, xs.set n.toNat y⟩) rest D)
    (hs : swapsWithSole [.Subscript o i tpos] e pos.line X.env = pure false := by rfl) (hw : swappedStores [.Subscript o i tpos] e X.env = pure none := by rfl)
    (h1 : (assignEach [.Subscript o i tpos] X.env).map (·.2) = [assign (.Subscript o i tpos) X.env] := by rfl)
    (ha : ∀ v, assign (.Subscript o i tpos) X.env v = (do
      let ov ← holding [v] (eval o X.env)
      let iv ← holding [v, ov] (eval i X.env)
      standAt tpos
      holding [v, ov, iv] (setItem ov iv v)
      release [v, ov, iv] []) := by intro _; rfl) : DS X K B Γ O (.Assign [.Subscript o i tpos] e pos :: rest) D := by
  intro σ G H W
  refine WSs.cons (ps_asg (te := WE (Us X) e) (WE.pe (F := Us X) ()) (pg_sub (WE.pe (F := Us X) ()) (WE.pe (F := Us X) ()) set_list ha) hs hw h1) ?_
  refine h σ G H W _ fun y O1 v G1 H1 k1 W1 e1 r1 => ?_
  refine k1 σ G1 H1 W1 _ fun q O2 u G2 H2 k2 W2 e2 r2 => ?_
  refine k2 σ G2 H2 W2 _ fun n O3 z G3 H3 ⟨xs, f, hO, hn, kk⟩ W3 e3 r3 => ?_
  obtain ⟨ob, h2, ws, h3, h4⟩ := W3.ownO hO
  subst h3
  refine ⟨q, ws, n, n.toNat, r2, r3, h2, atI_ok hn.1 (by rw [h4.length]; exact hn.2), ?_⟩
  exact kk σ G3 _ (W3.mutO (h := hO) (r' := oLst rc) (x' := xs.set n.toNat y) ⟨_, rfl, h4.set (rc.mono (e2.trans e3) r1) n.toNat⟩)
end
/-! ### a parameter that is an own object, with what it holds -/
def rGh {β : Type} : Rp (Addr × β) := ⟨fun _ _ v x => v = .ref x.1, fun _ h => h⟩
section
variable {ι : Type} {F : ι → Cx} {X : Cx} {K : Fg} {B : Bs} {Γ : Gm} {O : List Own} {β : Type} {D : Ends} {rest : List Stmt} {e : Expr}
theorem d_gh (y : β) {Φ : Addr × β → List Own → Prop} (h : DW F K B Γ O e rAdr fun q O1 => Φ (q, y) O1) : DW F K B Γ O e rGh Φ := fun σ G H W Q q => h σ G H W Q fun x O' v G' H' kk W' e' hv => q (x, y) O' v G' H' kk W' e' hv
theorem s_gh (j : Nat) {x : Addr × β} {f : Option Slot → Gm} [hA : At Γ j (rGh (β := β)) x] [hg : SetG Γ j f] (h : DS X K B (f (some ⟨rAdr, x.1⟩)) O rest D) : DS X K B Γ O rest D := s_re (ra := rGh (β := β)) (x := x) (rb := rAdr) (y := x.1) j (fun h => h) h
end
/-! ### promises that keep one own object and hand out others -/
section
variable {K : Fg} {B : Bs} {Γ : Gm} {O : List Own} {α β γ : Type} {ra : RpF α} {rb : Rp β} {pre : α → Prop} {T : List Addr}
/-- one own object kept, a new one handed out -/
abbrev sp1N {δ : Type} (K : Fg) (T : List Addr) (ra : RpF α) (pre : α → Prop) (own : α → Own) (r' : Ow δ) (post : α → δ → Prop) : Sp := spM K T ra pre (fun x => [own x]) rAdr fun x q O' => ∃ d, post x d ∧ O' = [⟨q, r', d⟩, own x]
end
theorem s_sub {X : Cx} {K : Fg} {B : Bs} {Γ : Gm} {O O' : List Own} {D : Ends} {rest : List Stmt} (hs : List.Sublist O' O) (h : DS X K B Γ O' rest D) : DS X K B Γ O rest D := s_own h (fun w hw => hs.subset hw) fun z => z.sublist (hs.map _)
theorem s_perm {X : Cx} {K : Fg} {B : Bs} {Γ : Gm} {O O' : List Own} {D : Ends} {rest : List Stmt} (hs : O'.Perm O) (h : DS X K B Γ O' rest D) : DS X K B Γ O rest D := s_own h (fun w hw => hs.mem_iff.mp hw) fun z => ((hs.map (·.a)).nodup_iff).mpr z
section
variable {X : Cx} {K : Fg} {B : Bs} {Γ : Gm} {O : List Own} {D : Ends} {rest r2 : List Stmt} {pos : Pos} {g : Hp} {N : St → Hp → Prop}
theorem s_contI {δ : Type} {Pv : δ → Prop} {Γf : δ → Gm} {Of : δ → List Own} (d : δ) (h : Pv d) (hw : Wk Γ (Γf d)) (ho : O = Of d) : DS X K B Γ O (.Continue pos :: r2) { LpE X K B Pv Γf Of rest D with nx := N } :=
  s_cont fun σ G H W => ⟨d, G, h, by rw [← ho]; exact W.wk hw⟩
end
end Sk
set_option Elab.async false
set_option linter.all false
set_option maxRecDepth 100000
set_option maxHeartbeats 4100000
/-! Sk11: objects of classes: attributes, making, methods. -/
namespace Sk
open PySem L2 Evl
/-! ### objects -/
def rIns {α : Type} (C : Addr) (ns : List Str) (f : RpF α) : Rp α := ⟨fun K G v x => ∃ a dx vs, v = .ref a ∧ G a = some (.ins C dx (ns.zip vs)) ∧ f.rep K G vs x ∧ vs.length = ns.length,
  fun e ⟨a, dx, vs, h1, h2, h3, h4⟩ => ⟨a, dx, vs, h1, e _ _ h2, f.mono e h3, h4⟩⟩
def oIns {α : Type} (C : Addr) (ns : List Str) (f : RpF α) : Ow α := ⟨fun K G o x => ∃ dx vs, o = .ins C dx (ns.zip vs) ∧ f.rep K G vs x ∧ vs.length = ns.length,
  fun e ⟨dx, vs, h1, h2, h3⟩ => ⟨dx, vs, h1, f.mono e h2, h3⟩⟩
/-- one more value behind -/
def fApp {α β : Type} (f : RpF α) (r : Rp β) : RpF (α × β) := ⟨fun K G vs x => ∃ ws v, vs = ws ++ [v] ∧ f.rep K G ws x.1 ∧ r.rep K G v x.2, fun e ⟨ws, v, h1, h2, h3⟩ => ⟨ws, v, h1, f.mono e h2, r.mono e h3⟩⟩
instance lenApp {α β : Type} {f : RpF α} {r : Rp β} {n : Nat} [h : Len f n] : Len (fApp f r) (n + 1) := ⟨fun ⟨ws, v, h1, h2, _⟩ => by rw [h1, List.length_append, h.len h2]; rfl⟩
section
variable {α β γ δ : Type}
/-- what is an object of the class at C -/
class InsR {α : Type} (O : List Own) (ra : Rp α) (x : α) (C : outParam Addr) (ns : outParam (List Str)) {β : outParam Type} (f : outParam (RpF β)) (y : outParam β) : Prop where
  get : ∀ {K : Fg} {B : Bs} {Γ : Gm} {σ : St} {G H : Hp} {v : V}, Ws K B Γ O σ G H → ra.rep K G v x → ∃ a dx vs, v = .ref a ∧ H a = some (.ins C dx (ns.zip vs)) ∧ f.rep K G vs y ∧ vs.length = ns.length
instance insP {O : List Own} {C : Addr} {ns : List Str} {f : RpF β} {y : β} : InsR O (rIns C ns f) y C ns f y := ⟨fun W ⟨a, dx, vs, h1, h2, h3, h4⟩ => ⟨a, dx, vs, h1, W.sub _ _ h2, h3, h4⟩⟩
instance insO {O : List Own} {C : Addr} {ns : List Str} {f : RpF β} {q : Addr} {y : β} {g : Own → List Own} [h : OwnAt O q (oIns C ns f) y g] : InsR O rAdr q C ns f y := ⟨fun W e => by
  obtain ⟨o, h1, dx, vs, h2, h3, h4⟩ := W.ownO h
  subst h2
  exact ⟨q, dx, vs, e, h1, h3, h4⟩⟩
/-- the class, its attributes' names -/
structure Kl (K : Fg) (C : Addr) (ns : List Str) : Prop where
  c : Cls K C
  na : ∀ f ∈ ns, NoAttr K C f
theorem zip_look {key : Str} : ∀ {ns : List Str} {vs : List V} {i : Nat}, ns.Nodup → ns[i]? = some key → (ns.zip vs).lookup key = vs[i]?
  | [], vs, i, _, e => by simp at e
  | n :: ns, [], i, _, _ => by simp
  | n :: ns, v :: vs, 0, _, e => by
    have e' : n = key := by simpa using e
    subst e'
    simp [List.zip_cons_cons, List.lookup]
  | n :: ns, v :: vs, i + 1, h, e => by
    have e' : ns[i]? = some key := by simpa using e
    have ne : ¬ key = n := fun z => (List.nodup_cons.mp h).1 (z ▸ List.mem_of_getElem? e')
    have eb : (key == n) = false := by simpa using ne
    rw [List.zip_cons_cons, List.lookup_cons, eb, zip_look (List.nodup_cons.mp h).2 e']
    simp
theorem zip_none {key : Str} : ∀ {ns : List Str} {vs : List V}, key ∉ ns → (ns.zip vs).lookup key = none
  | [], vs, _ => by simp
  | n :: ns, [], _ => by simp
  | n :: ns, v :: vs, h => by
    have ne : ¬ key = n := fun z => h (z ▸ List.mem_cons_self)
    have eb : (key == n) = false := by simpa using ne
    rw [List.zip_cons_cons, List.lookup_cons, eb, zip_none (fun z => h (List.mem_cons_of_mem _ z))]
theorem zip_putF {key : Str} {y : V} : ∀ {ns : List Str} {vs : List V} {i : Nat}, ns.Nodup → ns[i]? = some key → i < vs.length → putF key y (ns.zip vs) = ns.zip (vs.set i y)
  | [], vs, i, _, e, _ => by simp at e
  | n :: ns, [], i, _, _, h => by simp at h
  | n :: ns, v :: vs, 0, _, e, _ => by
    have e' : n = key := by simpa using e
    subst e'
    show (if n = n then _ else _) = _
    rw [if_pos rfl]
    rfl
  | n :: ns, v :: vs, i + 1, h, e, hi => by
    have e' : ns[i]? = some key := by simpa using e
    have ne : ¬ n = key := fun z => (List.nodup_cons.mp h).1 (z ▸ List.mem_of_getElem? e')
    show (if n = key then _ else (n, v) :: putF key y (ns.zip vs)) = (n, v) :: ns.zip (vs.set i y)
    rw [if_neg ne, zip_putF (List.nodup_cons.mp h).2 e' (by simpa using hi)]
theorem zip_putF_new {key : Str} {y : V} : ∀ {ns : List Str} {vs : List V}, key ∉ ns → vs.length = ns.length → putF key y (ns.zip vs) = (ns ++ [key]).zip (vs ++ [y])
  | [], [], _, _ => rfl
  | [], _ :: _, _, h => by simp at h
  | n :: ns, [], _, h => by simp at h
  | n :: ns, v :: vs, h, hl => by
    have ne : ¬ n = key := fun z => h (z ▸ List.mem_cons_self)
    show (if n = key then _ else (n, v) :: putF key y (ns.zip vs)) = (n, v) :: (ns ++ [key]).zip (vs ++ [y])
    rw [if_neg ne, zip_putF_new (fun z => h (List.mem_cons_of_mem _ z)) (by simpa using hl)]
/-! the i-th of values with one more behind -/
instance (priority := high) fatL {f : RpF α} {r : Rp β} {n : Nat} [h : Len f n] : FAt (fApp f r) n r (fun x => x.2) := ⟨fun ⟨ws, v, h1, h2, h3⟩ => ⟨v, by rw [h1, ← h.len h2]; simp, h3⟩⟩
instance (priority := low) fatI {f : RpF α} {r : Rp β} {i : Nat} {r' : Rp γ} {g : α → γ} [h : FAt f i r' g] : FAt (fApp f r) i r' (fun x => g x.1) := ⟨fun ⟨ws, v, h1, h2, _⟩ => by
  obtain ⟨u, h3, h4⟩ := h.get h2
  exact ⟨u, by rw [h1, List.getElem?_append_left (List.getElem?_eq_some_iff.mp h3).1]; exact h3, h4⟩⟩
variable {ι : Type} {F : ι → Cx} {K : Fg} {B : Bs} {Γ : Gm} {O : List Own} {ra : Rp α} {rb : Rp β} {rc : Rp γ} {e o : Expr} {es : List Expr} {pos p apos pos2 : Pos} {n : Str} {C : Addr} {ns : List Str} {f : RpF δ}
variable {P : Program} {w : World} {mg : Str → Option Value} {base : Heap} {k : Nat}
/-- the value at the i-th place -/
class FV {α : Type} (f : RpF α) (y : α) (i : Nat) {β : outParam Type} (r : outParam (Rp β)) (z : outParam β) : Prop where
  get : ∀ {K : Fg} {G : Hp} {vs : List V}, f.rep K G vs y → ∃ v, vs[i]? = some v ∧ r.rep K G v z
instance fvOf {f : RpF δ} {y : δ} {i : Nat} {r : Rp β} {g : δ → β} [h : FAt f i r g] : FV f y i r (g y) := ⟨fun q => h.get q⟩
/-- the same, the object a name's -/
theorem d_fldV [fam : Fam F P w K mg base k] {key : Str} (kl : Kl K C ns) (iv i : Nat) {x : α} {y : δ} {r : Rp β} {z : β} [hA : At Γ iv ra x] [hI : InsR O ra x C ns f y] [hf : FV f y i r z] {Φ : β → List Own → Prop} (hk : ns[i]? = some key) (hn : ns.Nodup) (kk : Φ z O)
    (hN : ∀ j, (F j).N[iv]? = some n := by intro _; rfl) (hv : ∀ j, Vis (F j).env.scope n := by intro _; first | exact Or.inl rfl | exact Or.inr (Or.inl rfl) | exact Or.inr (Or.inr rfl)) (hd : (n == ("__debug__" : Str)) = false := by decide)
    (hcd : (n == ("__classdict__" : Str)) = false := by decide) (hb : ∀ j, attributeBase (.Name n pos2) key (F j).env (eval (.Name n pos2) (F j).env) = eval (.Name n pos2) (F j).env := by intro _; rfl) : DW F K B Γ O (.Attribute (.Name n pos2) key pos) r Φ := by
  intro σ G H W Q q
  refine ⟨tFld K (WE F (.Name n pos2)) key, fun j => by rw [← fam.ka j]; exact pe_fld (WE.pe j) (hb j), ?_⟩
  refine d_var (F := F) iv (Φ := fun x' O1 => x' = x ∧ O1 = O) ⟨rfl, rfl⟩ hN hv hd hcd σ G H W _ fun x' O1 v G1 H1 ⟨e1, e2⟩ W1 ex r1 => ?_
  subst e1 e2
  obtain ⟨a, dx, vs, h1, h2, h3, h4⟩ := hI.get W1 r1
  obtain ⟨u, h5, h6⟩ := hf.get h3
  exact ⟨a, C, dx, _, u, h1, h2, kl.c, kl.na key (List.mem_of_getElem? hk), by rw [zip_look hn hk]; exact h5, q _ O1 u G1 H1 kk W1 ex h6⟩
/-! ### methods -/
/-- a method of the class at C -/
structure Md (K : Fg) (C : Addr) (m qual : Str) (st : Stmt) (ps : List Str) where
  f : Addr
  fd : FuncData
  F : Fun K m qual st f fd
  me : Meth K C m f
  b : Binds K fd ps []
theorem d_meth [fam : Fam F P w K mg base k] {j : Nat} {m qual : Str} {st : Stmt} {ps : List Str} {sp : Sp} (kl : Kl K C ns) (D : Md K C m qual st ps) (G : FnOk P w K mg base CX0 j D.f D.fd ps sp) {g : RpF β} {pl : ι → Sem Bool} {Φ : γ → List Own → Prop}
    (h : DW F K B Γ O o ra fun x O1 => ∃ y, InsR O1 ra x C ns f y ∧ DA F K B Γ O1 (e :: es) g fun z O2 => SW K B Γ O2 sp [] (fCons ra g) (x, z) rc Φ) (hm : m ∉ ns := by decide +kernel) (hj : j ≤ k := by decide)
    (he : ∀ i, starEach (e :: es) (F i).env = (false, eval e (F i).env) :: starEach es (F i).env := by intro _; rfl) (hpl : ∀ i, (backTo pos (starEach es (F i).env)).any (·.1) = false := by intro _; rfl)
    (ht : ∀ i, eval (.Call (.Attribute o m apos) (e :: es) [] pos) (F i).env = (do
      let ov ← eval o (F i).env
      standAt apos.atName
      let (f, first) ← holding [ov] (getMethod ov m (pl i))
      callWith pos f first (backTo pos (starEach (e :: es) (F i).env)) (backToKw pos (keywordEach [] (F i).env))) := by intro _; rfl) :
    DW F K B Γ O (.Call (.Attribute o m apos) (e :: es) [] pos) rc Φ := by
  intro σ G' H W Q q
  refine ⟨tMeth C m sp [] E0 (WE F o) (WA F (e :: es)), fun i => ?_, ?_⟩
  · have h1 := fam.pr i
    have h2 := fam.wd i
    have h3 := fam.ka i
    have h4 := fam.mg i
    have h5 := fam.bs i
    have G2 : FnOk (F i).prog (F i).w (F i).K (F i).mg (F i).base CX0 j D.f D.fd ps sp := by rw [h1, h2, h3, h4, h5]; exact G
    have c2 : Cls (F i).K C := by rw [h3]; exact kl.c
    have m2 : Meth (F i).K C m D.f := by rw [h3]; exact D.me
    have b2 : Binds (F i).K D.fd ps [] := by rw [h3]; exact D.b
    exact pe_meth (pl := pl i) (WE.pe i) c2 m2 G2 ((fam.rm i).mono hj) b2 .nil pass0 (WA.pa i) (he i) (hpl i) (ht i)
  · refine h σ G' H W _ fun x O1 v G1 H1 ⟨y, hI, k1⟩ W1 e1 r1 => ?_
    obtain ⟨a, dx, vs, h1, h2, h3, h4⟩ := hI.get W1 r1
    refine ⟨a, dx, _, h1, h2, zip_none hm, ?_⟩
    refine k1 σ G1 H1 W1 _ fun z O2 us G2 H2 k2 W2 e2 r2 => ?_
    have z2 := k2 σ G2 H2 (v :: us) W2 ⟨v, us, rfl, ra.mono e2 r1, r2⟩ Q fun y O' u G3 H3 k3 W3 e3 r3 => q y O' u G3 H3 k3 W3 ((e1.trans e2).trans e3) r3
    rw [List.append_nil] at z2 ⊢
    exact z2
theorem d_meth0 [fam : Fam F P w K mg base k] {j : Nat} {m qual : Str} {st : Stmt} {ps : List Str} {sp : Sp} (kl : Kl K C ns) (D : Md K C m qual st ps) (G : FnOk P w K mg base CX0 j D.f D.fd ps sp) {pl : ι → Sem Bool} {Φ : γ → List Own → Prop}
    (h : DW F K B Γ O o ra fun x O1 => ∃ y, InsR O1 ra x C ns f y ∧ SW K B Γ O1 sp [] (fOne ra) x rc Φ) (hm : m ∉ ns := by decide +kernel) (hj : j ≤ k := by decide)
    (ht : ∀ i, eval (.Call (.Attribute o m apos) [] [] pos) (F i).env = (do
      let ov ← eval o (F i).env
      standAt apos.atName
      let (f, first) ← holding [ov] (getMethod ov m (pl i))
      callWith pos f first (backTo pos (starEach [] (F i).env)) (backToKw pos (keywordEach [] (F i).env))) := by intro _; rfl) :
    DW F K B Γ O (.Call (.Attribute o m apos) [] [] pos) rc Φ := by
  intro σ G' H W Q q
  refine ⟨tMeth C m sp [] E0 (WE F o) tNil, fun i => ?_, ?_⟩
  · have h1 := fam.pr i
    have h2 := fam.wd i
    have h3 := fam.ka i
    have h4 := fam.mg i
    have h5 := fam.bs i
    have G2 : FnOk (F i).prog (F i).w (F i).K (F i).mg (F i).base CX0 j D.f D.fd ps sp := by rw [h1, h2, h3, h4, h5]; exact G
    have c2 : Cls (F i).K C := by rw [h3]; exact kl.c
    have m2 : Meth (F i).K C m D.f := by rw [h3]; exact D.me
    have b2 : Binds (F i).K D.fd ps [] := by rw [h3]; exact D.b
    exact pe_meth0 (pl := pl i) (WE.pe i) c2 m2 G2 ((fam.rm i).mono hj) b2 .nil pass0 (ht i)
  · refine h σ G' H W _ fun x O1 v G1 H1 ⟨y, hI, k1⟩ W1 e1 r1 => ?_
    obtain ⟨a, dx, vs, h1, h2, h3, h4⟩ := hI.get W1 r1
    refine ⟨a, dx, _, h1, h2, zip_none hm, ?_⟩
    exact k1 σ G1 H1 [v] W1 ⟨v, rfl, r1⟩ Q fun y O' u G3 H3 k3 W3 e3 r3 => q y O' u G3 H3 k3 W3 (e1.trans e3) r3
/-! ### making -/
/-- a class that is made by its name -/
structure Ck (K : Fg) (mg : Str → Option Value) (n : Str) (C : Addr) (qual : Str) (st : Stmt) (ps : List Str) where
  f : Addr
  fd : FuncData
  F : Fun K "__init__" qual st f fd
  m : mg n = some (.ref C)
  mkr : Mk K C f
  b : Binds K fd ps []
abbrev oNew (C : Addr) : Ow Unit := oIns C [] fNil
theorem Ws.hid {σ : St} {G H : Hp} {dx : Addr} {o : HO} (W : Ws K B Γ O σ G H) (hp : H dx = none) : Ws K B Γ O σ G (upd H dx o) := W.step (Stp.newOwn W.sub hp)
theorem d_make [fam : Fam F P w K mg base k] {j : Nat} {qual : Str} {st : Stmt} {ps : List Str} {sp : Sp} (D : Ck K mg n C qual st ps) (G : FnOk P w K mg base CX0 j D.f D.fd ps sp) {g : RpF β} {Φ : Addr → List Own → Prop}
    (h : DA F K B Γ O (e :: es) g fun z O1 => ∀ q, q ∉ B.M → SW K B Γ (⟨q, oNew C, ()⟩ :: O1) sp [] (fCons rAdr g) (q, z) rNon fun _ O' => Φ q O') (hj : j + 1 ≤ k := by decide)
    (hdb : (n == ("__debug__" : Str)) = false := by decide) (hg : ∀ i, Gl (F i) n := by intro _; rfl)
    (he : ∀ i, starEach (e :: es) (F i).env = (false, eval e (F i).env) :: starEach es (F i).env := by intro _; rfl) (hpl : ∀ i, (backTo pos (starEach es (F i).env)).any (·.1) = false := by intro _; rfl) :
    DW F K B Γ O (.Call (.Name n p) (e :: es) [] pos) rAdr Φ := by
  intro σ G' H W Q q
  refine ⟨tMake C sp [] E0 (WA F (e :: es)), fun i => ?_, ?_⟩
  · have h1 := fam.pr i
    have h2 := fam.wd i
    have h3 := fam.ka i
    have h4 := fam.mg i
    have h5 := fam.bs i
    have G2 : FnOk (F i).prog (F i).w (F i).K (F i).mg (F i).base CX0 j D.f D.fd ps sp := by rw [h1, h2, h3, h4, h5]; exact G
    have m2 : (F i).mg n = some (.ref C) := by rw [h4]; exact D.m
    have k2 : Mk (F i).K C D.f := by rw [h3]; exact D.mkr
    have b2 : Binds (F i).K D.fd ps [] := by rw [h3]; exact D.b
    exact pe_make k2 G2 ((fam.rm i).mono hj) (hg i) m2 b2 .nil pass0 (WA.pa i) hdb (he i) (hpl i)
  · refine h σ G' H W _ fun z O1 us G1 H1 k1 W1 e1 r1 => ?_
    intro x dx hx hdx hne
    have W2 := W1.hid (o := .own x) hdx
    have hx2 : upd H1 dx (.own x) x = none := by rw [upd_ne hne.symm]; exact hx
    have W3 := W2.newOwn hx2 (r := oNew C) (x := ()) (o := .ins C dx []) ⟨dx, [], rfl, rfl, rfl⟩
    have z2 := k1 x (W1.notM hx) σ G1 _ (.ref x :: us) W3 ⟨.ref x, us, rfl, rfl, r1⟩ (fun v H2 => v = .non ∧ Q (.ref x) H2) fun y O' u G3 H3 k3 W4 e3 r3 => ⟨r3, q x O' (.ref x) G3 H3 k3 W4 (e1.trans e3) rfl⟩
    rw [List.append_nil] at z2 ⊢
    exact z2
end
/-! ### attributes are written -/
section
variable {X : Cx} {K : Fg} {B : Bs} {Γ Γ' : Gm} {O O' : List Own} {α β γ δ : Type} {ra : Rp α} {rb : Rp β} {rc : Rp γ} {D : Ends} {rest : List Stmt} {e o i : Expr} {pos tpos : Pos} {C : Addr} {ns : List Str} {f : RpF δ} {key : Str}
variable {P : Program} {w : World} {mg : Str → Option Value} {base : Heap} {k : Nat}
/-- o.key = e, an own object that has the attribute -/
theorem s_fld [fam : Fam (Us X) P w K mg base k] (kl : Kl K C ns) (j : Nat) {r : Rp β} {g : δ → β → δ} [hf : FSet f j r g] (hk : ns[j]? = some key) (hn : ns.Nodup)
    (h : DW (Us X) K B Γ O e r fun y O1 => DW (Us X) K B Γ O1 o rAdr fun q O2 => ∃ x u, OwnAt O2 q (oIns C ns f) x u ∧ DS X K B Γ (u ⟨q, oIns C ns f, g x y⟩) rest D) (hz : ns.length < 1000 := by decide)
    (hs : swapsWith e (some (.Attribute o key tpos)) pos.line X.env = pure false := by rfl) : DS X K B Γ O (.Assign [.Attribute o key tpos] e pos :: rest) D := by
  intro σ G H W
  refine WSs.cons (ps_fld (tv := WE (Us X) e) (ta := WE (Us X) o) (WE.pe (F := Us X) ()) (WE.pe (F := Us X) ()) hs) ?_
  refine h σ G H W _ fun y O1 v G1 H1 k1 W1 e1 r1 => ?_
  refine k1 σ G1 H1 W1 _ fun q O2 u G2 H2 ⟨x, fo, hO, kk⟩ W2 e2 r2 => ?_
  obtain ⟨ob, h1, dx, vs, h2, h3, h4⟩ := W2.ownO hO
  subst h2
  have hlt : j < vs.length := by rw [h4]; exact (List.getElem?_eq_some_iff.mp hk).1
  have cl : Cls X.K C := by rw [fam.ka ()]; exact kl.c
  have na : NoAttr X.K C key := by rw [fam.ka ()]; exact kl.na key (List.mem_of_getElem? hk)
  refine ⟨q, C, dx, _, r2, h1, cl, na, ?_, ?_⟩
  · rw [List.length_zip, h4, Nat.min_self]
    exact hz
  · exact kk σ G2 _ (W2.mutO (h := hO) (r' := oIns C ns f) (x' := g x y) ⟨dx, vs.set j v, by rw [zip_putF hn hk hlt], hf.set h3 (r.mono e2 r1), by rw [List.length_set]; exact h4⟩)
/-- o.key = e, an own object that has not got it yet -/
theorem s_fldN [fam : Fam (Us X) P w K mg base k] (kl : Kl K C (ns ++ [key])) {r : Rp β}
    (h : DW (Us X) K B Γ O e r fun y O1 => DW (Us X) K B Γ O1 o rAdr fun q O2 => ∃ x u, OwnAt O2 q (oIns C ns f) x u ∧ DS X K B Γ (u ⟨q, oIns C (ns ++ [key]) (fApp f r), (x, y)⟩) rest D) (hn : key ∉ ns := by decide +kernel) (hz : ns.length < 1000 := by decide)
    (hs : swapsWith e (some (.Attribute o key tpos)) pos.line X.env = pure false := by rfl) : DS X K B Γ O (.Assign [.Attribute o key tpos] e pos :: rest) D := by
  intro σ G H W
  refine WSs.cons (ps_fld (tv := WE (Us X) e) (ta := WE (Us X) o) (WE.pe (F := Us X) ()) (WE.pe (F := Us X) ()) hs) ?_
  refine h σ G H W _ fun y O1 v G1 H1 k1 W1 e1 r1 => ?_
  refine k1 σ G1 H1 W1 _ fun q O2 u G2 H2 ⟨x, fo, hO, kk⟩ W2 e2 r2 => ?_
  obtain ⟨ob, h1, dx, vs, h2, h3, h4⟩ := W2.ownO hO
  subst h2
  have cl : Cls X.K C := by rw [fam.ka ()]; exact kl.c
  have na : NoAttr X.K C key := by rw [fam.ka ()]; exact kl.na key (by simp)
  refine ⟨q, C, dx, _, r2, h1, cl, na, ?_, ?_⟩
  · rw [List.length_zip, h4, Nat.min_self]
    exact hz
  · exact kk σ G2 _ (W2.mutO (h := hO) (r' := oIns C (ns ++ [key]) (fApp f r)) (x' := (x, y)) ⟨dx, vs ++ [v], by rw [zip_putF_new hn h4], ⟨vs, v, rfl, h3, r.mono e2 r1⟩, by rw [List.length_append, List.length_append, h4]; rfl⟩)
/-- an own list of an own object is done: the object holds it as a list -/
theorem s_frzIn {q p : Addr} {r : Rp β} {xs : List β} {wo : Ow α} {x : α} {wo' : Ow γ} {x' : γ} {u : Own → List Own} (hM : q ∉ B.M) (hO : OwnAt O p wo x u) (hc : ∀ {K : Fg} {G : Hp} {o : HO}, (rLst r).rep K G (.ref q) xs → wo.rep K G o x → wo'.rep K G o x')
    (h : DS X K B Γ (u ⟨p, wo', x'⟩) rest D) : DS X K B Γ (⟨q, oLst r, xs⟩ :: O) rest D := fun σ G H W => by
  obtain ⟨o, ⟨ws, h1, h2⟩, W2, e⟩ := W.frz hM
  subst h1
  have hq : (rLst r).rep K (upd G q (.lst ws)) (.ref q) xs := ⟨q, ws, rfl, upd_same, h2.mono fun _ _ z => r.mono e z⟩
  obtain ⟨ob, h3, h4⟩ := W2.ownO hO
  have W3 := W2.mutO (h := hO) (o := ob) (r' := wo') (x' := x') (hc hq h4)
  have e2 : upd H p ob = H := by
    funext b
    by_cases hb : b = p
    · rw [hb, upd_same, h3]
    · rw [upd_ne hb]
  rw [e2] at W3
  exact h σ _ H W3
end
end Sk
set_option Elab.async false
set_option linter.all false
set_option maxRecDepth 100000
set_option maxHeartbeats 4100000
/-! Sk12: dicts by any keys, texts, zip and enumerate, things that are done. -/
namespace Sk
open PySem L2 Evl
/-! ### tables -/
section
variable {κ : Type} [DecidableEq κ] {α : Type}
def valX (xs : List (κ × α)) (k : κ) : Option α := (xs.find? fun p => decide (p.1 = k)).map (·.2)
def putX (xs : List (κ × α)) (k : κ) (x : α) : List (κ × α) := if (xs.any fun p => decide (p.1 = k)) = true then xs.map (fun p => if p.1 = k then (p.1, x) else p) else xs ++ [(k, x)]
def DicR (p : V → α → Prop) : List (κ × V) → List (κ × α) → Prop
  | [], [] => True
  | u :: r, x :: s => u.1 = x.1 ∧ p u.2 x.2 ∧ DicR p r s
  | _, _ => False
theorem DicR.mono {p q : V → α → Prop} (h : ∀ v x, p v x → q v x) : ∀ {kvs : List (κ × V)} {xs : List (κ × α)}, DicR p kvs xs → DicR q kvs xs
  | [], [], _ => trivial
  | _ :: _, _ :: _, ⟨a, b, c⟩ => ⟨a, h _ _ b, DicR.mono h c⟩
  | [], _ :: _, z => z
  | _ :: _, [], z => z
theorem DicR.length {p : V → α → Prop} : ∀ {kvs : List (κ × V)} {xs : List (κ × α)}, DicR p kvs xs → kvs.length = xs.length
  | [], [], _ => rfl
  | _ :: r, _ :: s, ⟨_, _, c⟩ => by rw [List.length_cons, List.length_cons, DicR.length c]
  | [], _ :: _, z => z.elim
  | _ :: _, [], z => z.elim
theorem DicR.val {p : V → α → Prop} (k : κ) : ∀ {kvs : List (κ × V)} {xs : List (κ × α)}, DicR p kvs xs → match valX xs k with
    | some x => ∃ v, valV kvs k = some v ∧ p v x
    | none => valV kvs k = none
  | [], [], _ => rfl
  | u :: r, x :: s, ⟨a, b, c⟩ => by
    by_cases h : x.1 = k
    · have e : valX (x :: s) k = some x.2 := by simp [valX, h]
      rw [e]
      exact ⟨u.2, valV_pos (a.trans h), b⟩
    · have e : valX (x :: s) k = valX s k := by simp [valX, h]
      rw [e]
      have ih := DicR.val k c
      have e2 : valV (u :: r) k = valV r k := valV_neg (fun z => h (a.symm.trans z))
      rw [e2]
      exact ih
  | [], _ :: _, z => z.elim
  | _ :: _, [], z => z.elim
theorem DicR.val_some {p : V → α → Prop} {k : κ} {kvs : List (κ × V)} {xs : List (κ × α)} {x : α} (h : DicR p kvs xs) (e : valX xs k = some x) : ∃ v, valV kvs k = some v ∧ p v x := by
  have := h.val k
  rw [e] at this
  exact this
theorem DicR.val_none {p : V → α → Prop} {k : κ} {kvs : List (κ × V)} {xs : List (κ × α)} (h : DicR p kvs xs) (e : valX xs k = none) : valV kvs k = none := by
  have := h.val k
  rw [e] at this
  exact this
theorem DicR.isSome {p : V → α → Prop} {k : κ} {kvs : List (κ × V)} {xs : List (κ × α)} (h : DicR p kvs xs) : (valV kvs k).isSome = (valX xs k).isSome := by
  cases e : valX xs k with
  | none =>
    rw [h.val_none e]
    rfl
  | some x =>
    obtain ⟨v, e2, _⟩ := h.val_some e
    rw [e2]
    rfl
theorem DicR.any {p : V → α → Prop} {k : κ} : ∀ {kvs : List (κ × V)} {xs : List (κ × α)}, DicR p kvs xs → (kvs.any fun u => decide (u.1 = k)) = (xs.any fun u => decide (u.1 = k))
  | [], [], _ => rfl
  | u :: r, x :: s, ⟨a, _, c⟩ => by rw [List.any_cons, List.any_cons, DicR.any c, a]
  | [], _ :: _, z => z.elim
  | _ :: _, [], z => z.elim
theorem DicR.append {p : V → α → Prop} : ∀ {kvs : List (κ × V)} {xs : List (κ × α)} {kvs' : List (κ × V)} {xs' : List (κ × α)}, DicR p kvs xs → DicR p kvs' xs' → DicR p (kvs ++ kvs') (xs ++ xs')
  | [], [], _, _, _, h => h
  | _ :: _, _ :: _, _, _, ⟨a, b, c⟩, h => ⟨a, b, DicR.append c h⟩
  | [], _ :: _, _, _, z, _ => z.elim
  | _ :: _, [], _, _, z, _ => z.elim
theorem DicR.over {p : V → α → Prop} {k : κ} {v : V} {x : α} (hp : p v x) : ∀ {kvs : List (κ × V)} {xs : List (κ × α)}, DicR p kvs xs → DicR p (kvs.map fun u => if u.1 = k then (u.1, v) else u) (xs.map fun u => if u.1 = k then (u.1, x) else u)
  | [], [], _ => trivial
  | u :: r, y :: s, ⟨a, b, c⟩ => by
    rw [List.map_cons, List.map_cons]
    refine ⟨?_, ?_, DicR.over hp c⟩
    · by_cases h : y.1 = k
      · rw [if_pos h, if_pos (a.trans h)]
        exact a
      · rw [if_neg h, if_neg (fun z => h (a.symm.trans z))]
        exact a
    · by_cases h : y.1 = k
      · rw [if_pos h, if_pos (a.trans h)]
        exact hp
      · rw [if_neg h, if_neg (fun z => h (a.symm.trans z))]
        exact b
  | [], _ :: _, z => z.elim
  | _ :: _, [], z => z.elim
theorem DicR.put {p : V → α → Prop} {k : κ} {v : V} {x : α} {kvs : List (κ × V)} {xs : List (κ × α)} (h : DicR p kvs xs) (hp : p v x) : DicR p (putK kvs k v) (putX xs k x) := by
  unfold putK putX
  rw [h.any]
  split
  · exact h.over hp
  · exact h.append ⟨rfl, hp, trivial⟩
end
def rDk {α : Type} (r : Rp α) : Rp (List (Key × α)) := ⟨fun K G v xs => ∃ a kvs, v = .ref a ∧ G a = some (.dK kvs) ∧ DicR (r.rep K G) kvs xs, fun e ⟨a, kvs, h1, h2, h3⟩ => ⟨a, kvs, h1, e _ _ h2, h3.mono fun _ _ z => r.mono e z⟩⟩
def rDt {α : Type} (r : Rp α) : Rp (List (List Key × α)) := ⟨fun K G v xs => ∃ a kvs, v = .ref a ∧ G a = some (.dT kvs) ∧ DicR (r.rep K G) kvs xs, fun e ⟨a, kvs, h1, h2, h3⟩ => ⟨a, kvs, h1, e _ _ h2, h3.mono fun _ _ z => r.mono e z⟩⟩
def oDk {α : Type} (r : Rp α) : Ow (List (Key × α)) := ⟨fun K G o xs => ∃ kvs, o = .dK kvs ∧ DicR (r.rep K G) kvs xs, fun e ⟨kvs, h1, h2⟩ => ⟨kvs, h1, h2.mono fun _ _ z => r.mono e z⟩⟩
def oDt {α : Type} (r : Rp α) : Ow (List (List Key × α)) := ⟨fun K G o xs => ∃ kvs, o = .dT kvs ∧ DicR (r.rep K G) kvs xs, fun e ⟨kvs, h1, h2⟩ => ⟨kvs, h1, h2.mono fun _ _ z => r.mono e z⟩⟩
/-- a key; a tuple of keys -/
def rKey : Rp Key := ⟨fun _ _ v k => v = kV k, fun _ h => h⟩
def rTk : Rp (List Key) := ⟨fun _ G v k => ∃ a, v = .ref a ∧ G a = some (.tup (k.map kV)), fun e ⟨a, h1, h2⟩ => ⟨a, h1, e _ _ h2⟩⟩
class DkR {α : Type} (O : List Own) (ra : Rp α) (x : α) {β : outParam Type} (r : outParam (Rp β)) (xs : outParam (List (Key × β))) : Prop where
  get : ∀ {K : Fg} {B : Bs} {Γ : Gm} {σ : St} {G H : Hp} {v : V}, Ws K B Γ O σ G H → ra.rep K G v x → ∃ a kvs, v = .ref a ∧ H a = some (.dK kvs) ∧ DicR (r.rep K G) kvs xs
class DtR {α : Type} (O : List Own) (ra : Rp α) (x : α) {β : outParam Type} (r : outParam (Rp β)) (xs : outParam (List (List Key × β))) : Prop where
  get : ∀ {K : Fg} {B : Bs} {Γ : Gm} {σ : St} {G H : Hp} {v : V}, Ws K B Γ O σ G H → ra.rep K G v x → ∃ a kvs, v = .ref a ∧ H a = some (.dT kvs) ∧ DicR (r.rep K G) kvs xs
section
variable {α β γ δ : Type}
instance dkP {O : List Own} {r : Rp β} {xs : List (Key × β)} : DkR O (rDk r) xs r xs := ⟨fun W ⟨a, kvs, h1, h2, h3⟩ => ⟨a, kvs, h1, W.sub _ _ h2, h3⟩⟩
instance dkO {O : List Own} {q : Addr} {r : Rp β} {xs : List (Key × β)} {f : Own → List Own} [h : OwnAt O q (oDk r) xs f] : DkR O rAdr q r xs := ⟨fun W e => by
  obtain ⟨o, h1, kvs, h2, h3⟩ := W.ownO h
  subst h2
  exact ⟨q, kvs, e, h1, h3⟩⟩
instance dtP {O : List Own} {r : Rp β} {xs : List (List Key × β)} : DtR O (rDt r) xs r xs := ⟨fun W ⟨a, kvs, h1, h2, h3⟩ => ⟨a, kvs, h1, W.sub _ _ h2, h3⟩⟩
instance dtO {O : List Own} {q : Addr} {r : Rp β} {xs : List (List Key × β)} {f : Own → List Own} [h : OwnAt O q (oDt r) xs f] : DtR O rAdr q r xs := ⟨fun W e => by
  obtain ⟨o, h1, kvs, h2, h3⟩ := W.ownO h
  subst h2
  exact ⟨q, kvs, e, h1, h3⟩⟩
variable {ι : Type} {F : ι → Cx} {K : Fg} {B : Bs} {Γ : Gm} {O : List Own} {ra : Rp α} {rb : Rp β} {rc : Rp γ} {e a b o i : Expr} {es : List Expr} {pos p apos pos2 : Pos} {n : Str}
variable {P : Program} {w : World} {mg : Str → Option Value} {base : Heap} {k : Nat}
theorem d_keyS {Φ : Key → List Own → Prop} (h : DW F K B Γ O e rStr fun x O1 => Φ (Sum.inr x) O1) : DW F K B Γ O e rKey Φ := fun σ G H W Q q => h σ G H W Q fun x O' v G' H' kk W' e' hv => q (Sum.inr x) O' v G' H' kk W' e' hv
theorem all2_key {K : Fg} {G : Hp} : ∀ {vs : List V} {ks : List Key}, All2 (rKey.rep K G) vs ks → vs = ks.map kV
  | [], [], _ => rfl
  | _ :: _, _ :: _, ⟨a, b⟩ => by rw [show _ = kV _ from a, all2_key b]; rfl
  | [], _ :: _, z => z.elim
  | _ :: _, [], z => z.elim
/-- a tuple of keys -/
theorem d_tupK {j : Nat} {Φ : List Key → List Own → Prop} (h : DA F K B Γ O es (fAll rKey) fun x O1 => x.length ≤ sizeLine ∧ Φ x O1) : DW F K B Γ O (.Tuple es j pos) rTk Φ := by
  intro σ G H W Q q
  refine ⟨_, fun i => pe_tup (WA.pa i), ?_⟩
  refine h σ G H W _ fun x O1 vs G1 H1 k W1 e1 r1 => ⟨by rw [All2.length r1]; exact k.1, fun p hp => ?_⟩
  have s : Stp B.T [] G1 H1 (upd G1 p (.tup vs)) (upd H1 p (.tup vs)) := Stp.new W1.sub hp
  exact q x O1 _ _ _ k.2 (W1.step s) (e1.trans s.g) ⟨p, rfl, by rw [upd_same, all2_key r1]⟩
/-- o[i], o a dict -/
theorem d_dk [fam : Fam F P w K mg base k] {Φ : γ → List Own → Prop} (h : DW F K B Γ O o ra fun x O1 => DW F K B Γ O1 i rKey fun y O2 => ∃ xs z, DkR O2 ra x rc xs ∧ valX xs y = some z ∧ Φ z O2) (hs : NoSl i := by intro _ _; rfl) : DW F K B Γ O (.Subscript o i pos) rc Φ := by
  intro σ G H W Q q
  refine ⟨tDGet (WE F o) (WE F i), fun j => pe_dget (by have := (fam.rm j).units; omega) (WE.pe j) (WE.pe j) hs, ?_⟩
  refine h σ G H W _ fun x O1 v G1 H1 h1 W1 e1 r1 => ?_
  refine h1 σ G1 H1 W1 _ fun y O2 u G2 H2 ⟨xs, z, hD, hz, kk⟩ W2 e2 r2 => ?_
  obtain ⟨c, kvs, g1, g2, g3⟩ := hD.get W2 (ra.mono e2 r1)
  obtain ⟨t, g4, g5⟩ := g3.val_some hz
  refine ⟨c, t, g1, ?_, q _ O2 t G2 H2 kk W2 (e1.trans e2) g5⟩
  have e3 := DGet.k (k := y) g2
  rw [g4] at e3
  rw [show u = kV y from r2]
  exact e3
theorem d_dt [fam : Fam F P w K mg base k] {Φ : γ → List Own → Prop} (h : DW F K B Γ O o ra fun x O1 => DW F K B Γ O1 i rTk fun y O2 => ∃ xs z, DtR O2 ra x rc xs ∧ valX xs y = some z ∧ Φ z O2) (hs : NoSl i := by intro _ _; rfl) : DW F K B Γ O (.Subscript o i pos) rc Φ := by
  intro σ G H W Q q
  refine ⟨tDGet (WE F o) (WE F i), fun j => pe_dget (by have := (fam.rm j).units; omega) (WE.pe j) (WE.pe j) hs, ?_⟩
  refine h σ G H W _ fun x O1 v G1 H1 h1 W1 e1 r1 => ?_
  refine h1 σ G1 H1 W1 _ fun y O2 u G2 H2 ⟨xs, z, hD, hz, kk⟩ W2 e2 ⟨d, r2, r3⟩ => ?_
  obtain ⟨c, kvs, g1, g2, g3⟩ := hD.get W2 (ra.mono e2 r1)
  obtain ⟨t, g4, g5⟩ := g3.val_some hz
  refine ⟨c, t, g1, ?_, q _ O2 t G2 H2 kk W2 (e1.trans e2) g5⟩
  have e3 := DGet.t (k := y) g2 (W2.sub _ _ r3)
  rw [g4] at e3
  rw [r2]
  exact e3
/-- {}: a dict of one's own -/
theorem d_dnewK {Φ : Addr → List Own → Prop} (r : Rp β) (kk : ∀ p, p ∉ B.M → Φ p (⟨p, oDk r, []⟩ :: O)) : DW F K B Γ O (.Dict [] [] pos) rAdr Φ := fun σ G H W Q q =>
  ⟨_, fun i => pe_dnewK, fun p hp => q p _ _ G _ (kk p (W.notM hp)) (W.newOwn hp (r := oDk r) (x := []) ⟨[], rfl, trivial⟩) (Ex.refl _) rfl⟩
theorem d_dnewT {Φ : Addr → List Own → Prop} (r : Rp β) (kk : ∀ p, p ∉ B.M → Φ p (⟨p, oDt r, []⟩ :: O)) : DW F K B Γ O (.Dict [] [] pos) rAdr Φ := fun σ G H W Q q =>
  ⟨_, fun i => pe_dnewT, fun p hp => q p _ _ G _ (kk p (W.notM hp)) (W.newOwn hp (r := oDt r) (x := []) ⟨[], rfl, trivial⟩) (Ex.refl _) rfl⟩
theorem dt_inK [fam : Fam F P w K mg base k] {Φ : Bool → List Own → Prop} (h : DW F K B Γ O i rKey fun y O1 => DW F K B Γ O1 o ra fun x O2 => ∃ (β : Type) (r : Rp β) (xs : List (Key × β)), DkR O2 ra x r xs ∧ Φ (valX xs y).isSome O2)
    (hm : behindInMarks .In o = false := by first | exact nomark _ | rfl) : DT F K B Γ O (.Compare i [.In] [o] pos) Φ := by
  intro σ G H W Q q
  refine ⟨tTest (tDIn (WE F i) (WE F o)), fun j => pt_cmp (pc_din (by have := (fam.rm j).units; omega) (WE.pe j) (WE.pe j)) hm, ?_⟩
  refine h σ G H W _ fun y O1 u G1 H1 h1 W1 e1 r1 => ?_
  refine h1 σ G1 H1 W1 _ fun x O2 v G2 H2 ⟨β, r, xs, hD, kk⟩ W2 e2 r2 => ?_
  obtain ⟨c, kvs, g1, g2, g3⟩ := hD.get W2 r2
  refine ⟨c, _, g1, ?_, _, congrArg V.bl g3.isSome, q _ O2 G2 H2 kk W2 (e1.trans e2)⟩
  rw [show u = kV y from r1]
  exact DGet.k g2
/-! ### texts -/
theorem i_str {x : Str} {j : Int} {c : Nat} {Φ : Str → List Own → Prop} (hz : x.length ≤ sizeLine) (h : atI x.cps.toList j = some c) (kk : Φ ⟨#[c]⟩ O) : IW F K B Γ O rStr rInt x j rStr Φ := fun σ G H v w W rv rw Q q =>
  ⟨rIxS, fun _ => ix_str, x, j, c, rv, rw, hz, h, q _ O _ G H kk W (Ex.refl _) rfl⟩
theorem o_addS {x y : Str} {Φ : Str → List Own → Prop} (hz : x.length + y.length ≤ sizeLine) (kk : Φ (x ++ y) O) : OW F K B Γ O (binaryOp .Add) rStr rStr x y rStr Φ := fun σ G H v w W rv rw Q q => ⟨_, fun _ => op_add_str, x, y, rv, rw, hz, q _ O _ G H kk W (Ex.refl _) rfl⟩
/-! ### zip, enumerate -/
theorem zip_get {xs : List α} {ys : List β} {j : Nat} {x : α} {y : β} (h1 : xs[j]? = some x) (h2 : ys[j]? = some y) : (xs.zip ys)[j]? = some (x, y) := List.getElem?_zip_eq_some.mpr ⟨h1, h2⟩
theorem Gives.zipT {T : List Addr} {Gb : Hp} {c d : Addr} {vs ws : List V} {xs : List α} {ys : List β} (h : SqT K Gb c vs) (r : All2 (ra.rep K Gb) vs xs) (h' : SqT K Gb d ws) (r' : All2 (rb.rep K Gb) ws ys) : Gives K T Gb (RZ.ItzT K c d) (rTup (fCons ra (fOne rb))) (xs.zip ys) where
  go := fun j G H hj e1 e2 => by
    rw [List.length_zip] at hj
    have h1 : j < vs.length := by rw [r.length]; omega
    have h2 : j < ws.length := by rw [r'.length]; omega
    exact ⟨vs, ws, vs[j], ws[j], ex_t (e1.trans e2) h, ex_t (e1.trans e2) h', List.getElem?_eq_getElem h1, List.getElem?_eq_getElem h2⟩
  stop := fun G H e1 e2 => by
    refine ⟨vs, ws, ex_t (e1.trans e2) h, ex_t (e1.trans e2) h', ?_⟩
    rw [List.length_zip, r.length, r'.length]
    omega
  yld := fun j G H v H' hj e1 e2 ⟨t, x, y, h1, h2, h3, h4, h5⟩ => by
    obtain ⟨x', hx, hr⟩ := r.get (h4 vs (ex_t (e1.trans e2) h))
    obtain ⟨y', hy, hr'⟩ := r'.get (h5 ws (ex_t (e1.trans e2) h'))
    subst h3
    have s : Stp T [] G H (upd G t (.tup [x, y])) (upd H t (.tup [x, y])) := Stp.new e2 h2
    exact ⟨(x', y'), _, zip_get hx hy, s, t, [x, y], h1, SqT.of upd_same, x, [y], rfl, ra.mono (e1.trans s.g) hr, y, rfl, rb.mono (e1.trans s.g) hr'⟩
/-- zip of two tuples -/
theorem w_zipT [fam : Fam F P w K mg base k] {elts : List Expr} {kk : Nat} {tpos : Pos} {Φ : List (α × β) → List Own → Prop} (hm : mg "zip" = none) (h : DW F K B Γ O a (rTpv ra) fun xs O1 => DW F K B Γ O1 b (rTpv rb) fun ys O2 => Φ (xs.zip ys) O2) (hg : ∀ i, Gl (F i) "zip" := by intro _; rfl)
    (hs : ∀ i, starEach [a, b] (F i).env = (false, eval a (F i).env) :: starEach [b] (F i).env := by intro _; rfl) (hs2 : ∀ i, starEach [b] (F i).env = (false, eval b (F i).env) :: starEach [] (F i).env := by intro _; rfl) (hpl : ∀ i, (backTo pos (starEach [b] (F i).env)).any (·.1) = false := by intro _; rfl) :
    DI F K B Γ O (.Tuple elts kk tpos) (.Call (.Name "zip" p) [a, b] [] pos) (rTup (fCons ra (fOne rb))) Φ := by
  intro σ G H W R q
  refine ⟨RZ.iZipA K (tCons (WE F a) (tCons (WE F b) tNil)), fun i => by rw [← fam.ka i]; exact RZ.pi_zipA (hg i) (by rw [fam.mg i]; exact hm) (pa_cons (WE.pe i) (pa_cons (WE.pe i) pa_nil (hs2 i)) (hs i)) (hs i) (hpl i), ?_⟩
  refine h σ G H W _ fun xs O1 v G1 H1 h1 W1 e1 ⟨c, vs, r1, r2, r3⟩ => ?_
  refine h1 σ G1 H1 W1 _ fun ys O2 u G2 H2 k2 W2 e2 ⟨d, ws, s1, s2, s3⟩ => ?_
  exact ⟨c, d, vs, ws, by rw [r1, s1], .inr ⟨ex_t (e2.trans W2.sub) r2, ex_t W2.sub s2, q _ _ O2 G2 H2 k2 (Gives.zipT (ex_t e2 r2) (r3.mono fun _ _ z => ra.mono e2 z) s2 s3) W2 (e1.trans e2)⟩⟩
end
/-! ### own things that are done -/
class Frz {α : Type} (r : Ow α) (r' : outParam (Rp α)) : Prop where
  frz : ∀ {K : Fg} {G : Hp} {a : Addr} {o : HO} {x : α}, G a = some o → r.rep K G o x → r'.rep K G (.ref a) x
section
variable {α β γ δ : Type}
instance {r : Rp β} : Frz (oLst r) (rLst r) := ⟨fun h ⟨vs, h1, h2⟩ => ⟨_, vs, rfl, by rw [h, h1], h2⟩⟩
instance {r : Rp β} : Frz (oDk r) (rDk r) := ⟨fun h ⟨vs, h1, h2⟩ => ⟨_, vs, rfl, by rw [h, h1], h2⟩⟩
instance {r : Rp β} : Frz (oDt r) (rDt r) := ⟨fun h ⟨vs, h1, h2⟩ => ⟨_, vs, rfl, by rw [h, h1], h2⟩⟩
instance {ns : List Str} {f : RpF β} : Frz (oRec ns f) (rRec ns f) := ⟨fun h ⟨vs, h1, h2⟩ => ⟨_, vs, rfl, by rw [h, h1], h2⟩⟩
instance {C : Addr} {ns : List Str} {f : RpF β} : Frz (oIns C ns f) (rIns C ns f) := ⟨fun h ⟨dx, vs, h1, h2, h3⟩ => ⟨_, dx, vs, rfl, by rw [h, h1], h2, h3⟩⟩
variable {X : Cx} {K : Fg} {B : Bs} {Γ : Gm} {O : List Own} {r : Ow α} {r' : Rp α} {D : Ends} {rest : List Stmt} {e o i : Expr} {pos tpos : Pos}
variable {P : Program} {w : World} {mg : Str → Option Value} {base : Heap} {k : Nat} {rc : Rp γ}
theorem s_done (j : Nat) {q : Addr} {x : α} {f : Option Slot → Gm} [hz : Frz r r'] [hA : At Γ j rAdr q] [hg : SetG Γ j f] (hM : q ∉ B.M) (h : DS X K B (f (some ⟨r', x⟩)) O rest D) : DS X K B Γ (⟨q, r, x⟩ :: O) rest D := fun σ G H W => by
  obtain ⟨o, h1, W2, e⟩ := W.frz hM
  obtain ⟨u, h3, h4⟩ := W2.env.get hA.get
  have hu : u = .ref q := h4
  have W3 := W2.set (s := ⟨r', x⟩) j (u := u) (by rw [hu]; exact hz.frz upd_same (r.mono e h1))
  have e2 : σ.set j (some u) = σ := by
    refine List.ext_getElem? fun l => ?_
    by_cases hj : j = l
    · subst hj
      rw [List.getElem?_set_self (List.getElem?_eq_some_iff.mp h3).1, h3]
    · rw [List.getElem?_set_ne hj]
  rw [e2, ← hg.eq] at W3
  exact h σ _ H W3
theorem rt_done {q : Addr} {x : α} [hz : Frz r r'] (hM : q ∉ B.M) (h : RT K B Γ O r' x D) : RT K B Γ (⟨q, r, x⟩ :: O) rAdr q D := fun v σ G H W rv => by
  obtain ⟨o, h1, W2, e⟩ := W.frz hM
  exact h v σ _ H W2 (by rw [show v = V.ref q from rv]; exact hz.frz upd_same (r.mono e h1))
theorem d_done {ι : Type} {F : ι → Cx} [hz : Frz r r'] {Φ : α → List Own → Prop} (h : DW F K B Γ O e rAdr fun q O1 => ∃ x O2, O1 = ⟨q, r, x⟩ :: O2 ∧ q ∉ B.M ∧ Φ x O2) : DW F K B Γ O e r' Φ := fun σ G H W Q q =>
  h σ G H W Q fun c O1 v G1 H1 ⟨x, O2, e1, hM, kk⟩ W1 e2 r1 => by
    subst e1
    obtain ⟨o, h1, W2, e⟩ := W1.frz hM
    exact q x O2 v _ H1 kk W2 (e2.trans e) (by rw [show v = V.ref c from r1]; exact hz.frz upd_same (r.mono e h1))
/-- d[i] = e, an own dict -/
theorem s_dput [fam : Fam (Us X) P w K mg base k]
    (h : DW (Us X) K B Γ O e rc fun y O1 => DW (Us X) K B Γ O1 o rAdr fun q O2 => DW (Us X) K B Γ O2 i rKey fun n O3 => ∃ xs f, OwnAt O3 q (oDk rc) xs f ∧ xs.length < sizeLine ∧ DS X K B Γ (f ⟨q, oDk rc, putX xs n y⟩) rest D)
    (hs : swapsWith e (some (.Subscript o i tpos)) pos.line X.env = pure false := by rfl) : DS X K B Γ O (.Assign [.Subscript o i tpos] e pos :: rest) D := by
  intro σ G H W
  refine WSs.cons (ps_dput (td := WE (Us X) o) (ty := WE (Us X) i) (tv := WE (Us X) e) (hu_of (fam.rm ())) (WE.pe (F := Us X) ()) (WE.pe (F := Us X) ()) (WE.pe (F := Us X) ()) hs) ?_
  refine h σ G H W _ fun y O1 v G1 H1 k1 W1 e1 r1 => ?_
  refine k1 σ G1 H1 W1 _ fun q O2 u G2 H2 k2 W2 e2 r2 => ?_
  refine k2 σ G2 H2 W2 _ fun n O3 z G3 H3 ⟨xs, f, hO, hl, kk⟩ W3 e3 r3 => ?_
  obtain ⟨ob, h1, kvs, h2, h3⟩ := W3.ownO hO
  subst h2
  refine ⟨q, _, r2, by rw [show z = kV n from r3]; exact DPut.k h1 (by rw [h3.length]; exact hl), ?_⟩
  exact kk σ G3 _ (W3.mutO (h := hO) (r' := oDk rc) (x' := putX xs n y) ⟨_, rfl, h3.put (rc.mono (e2.trans e3) r1)⟩)
theorem s_dputT [fam : Fam (Us X) P w K mg base k]
    (h : DW (Us X) K B Γ O e rc fun y O1 => DW (Us X) K B Γ O1 o rAdr fun q O2 => DW (Us X) K B Γ O2 i rTk fun n O3 => ∃ xs f, OwnAt O3 q (oDt rc) xs f ∧ xs.length < sizeLine ∧ DS X K B Γ (f ⟨q, oDt rc, putX xs n y⟩) rest D)
    (hs : swapsWith e (some (.Subscript o i tpos)) pos.line X.env = pure false := by rfl) : DS X K B Γ O (.Assign [.Subscript o i tpos] e pos :: rest) D := by
  intro σ G H W
  refine WSs.cons (ps_dput (td := WE (Us X) o) (ty := WE (Us X) i) (tv := WE (Us X) e) (hu_of (fam.rm ())) (WE.pe (F := Us X) ()) (WE.pe (F := Us X) ()) (WE.pe (F := Us X) ()) hs) ?_
  refine h σ G H W _ fun y O1 v G1 H1 k1 W1 e1 r1 => ?_
  refine k1 σ G1 H1 W1 _ fun q O2 u G2 H2 k2 W2 e2 r2 => ?_
  refine k2 σ G2 H2 W2 _ fun n O3 z G3 H3 ⟨xs, f, hO, hl, kk⟩ W3 e3 ⟨c, r3, r4⟩ => ?_
  obtain ⟨ob, h1, kvs, h2, h3⟩ := W3.ownO hO
  subst h2
  refine ⟨q, _, r2, by rw [r3]; exact DPut.t h1 (W3.sub _ _ r4) (by rw [h3.length]; exact hl), ?_⟩
  exact kk σ G3 _ (W3.mutO (h := hO) (r' := oDt rc) (x' := putX xs n y) ⟨_, rfl, h3.put (rc.mono (e2.trans e3) r1)⟩)
/-- a new key of an own dict by written keys -/
theorem s_recNew [fam : Fam (Us X) P w K mg base k] {key : Str} {ns : List Str} {fr : RpF δ} {j : Nat} {pos' : Pos} {m : Nat} [hl : Len fr m]
    (h : DW (Us X) K B Γ O e rc fun y O1 => DW (Us X) K B Γ O1 o rAdr fun q O2 => ∃ x f, OwnAt O2 q (oRec ns fr) x f ∧ DS X K B Γ (f ⟨q, oRec (ns ++ [key]) (fApp fr rc), (x, y)⟩) rest D) (hn : key ∉ ns := by decide +kernel) (hm : m = ns.length := by decide) (hz : m < 1000 := by decide)
    (hs : swapsWith e (some (.Subscript o (.Constant (.str key) j pos') tpos)) pos.line X.env = pure false := by rfl) : DS X K B Γ O (.Assign [.Subscript o (.Constant (.str key) j pos') tpos] e pos :: rest) D := by
  intro σ G H W
  refine WSs.cons (ps_dput (td := WE (Us X) o) (ty := tC (.str key)) (tv := WE (Us X) e) (hu_of (fam.rm ())) (WE.pe (F := Us X) ()) pe_str (WE.pe (F := Us X) ()) hs) ?_
  refine h σ G H W _ fun y O1 u G1 H1 k1 W1 e1 r1 => ?_
  refine k1 σ G1 H1 W1 _ fun c O2 v G2 H2 ⟨x, f, hO, kk⟩ W2 e2 r2 => ?_
  obtain ⟨ob, h1, vs, h2, h3⟩ := W2.ownO hO
  subst h2
  have hlen := hl.len h3
  have hnone : valV (zipK ns vs) (Sum.inr key) = none := valV_none (by
    rw [zipK_keys (by rw [hlen, hm])]
    intro z
    obtain ⟨b, hb, eb⟩ := List.mem_map.mp z
    exact hn (Sum.inr.inj eb ▸ hb))
  have hput : putK (zipK ns vs) (Sum.inr key) u = zipK (ns ++ [key]) (vs ++ [u]) := by
    rw [putK_new u hnone]
    unfold zipK
    rw [List.map_append, List.zip_append (by rw [List.length_map, hlen, hm])]
    rfl
  have hzz : (zipK ns vs).length < sizeLine := by
    have e3 : (zipK ns vs).length ≤ vs.length := by
      unfold zipK
      rw [List.length_zip]
      exact Nat.min_le_right _ _
    exact Nat.lt_of_le_of_lt e3 (by rw [hlen]; exact small1000 (by omega))
  refine ⟨c, _, r2, DPut.k (k := Sum.inr key) h1 hzz, ?_⟩
  refine kk _ _ _ (W2.mutO (h := hO) (r' := oRec (ns ++ [key]) (fApp fr rc)) (x' := (x, y)) ⟨vs ++ [u], by rw [hput], vs, u, rfl, h3, rc.mono e2 r1⟩)
end
end Sk
set_option Elab.async false
set_option linter.all false
set_option maxRecDepth 100000
set_option maxHeartbeats 4100000
/-! Sk13: more of objects; ends of bodies; what is found. -/
namespace Sk
open PySem L2 Evl
theorem Kl.sub {K : Fg} {C : Addr} {ns ns' : List Str} (h : Kl K C ns) (hs : ∀ x ∈ ns', x ∈ ns) : Kl K C ns' := ⟨h.c, fun f hf => h.na f (hs f hf)⟩
/-- a body that falls off its end -/
theorem s_fall {X : Cx} {K : Fg} {B : Bs} {Γ : Gm} {O : List Own} {Q : VK} (h : RT K B Γ O rNon () { nx := fun _ H' => Q .non H', rt := Q }) : DS X K B Γ O [] { nx := fun _ H' => Q .non H', rt := Q } := s_nil fun σ G H W => h .non σ G H W rfl
/-- a return in a loop -/
theorem rt_in {K : Fg} {B : Bs} {Γ : Gm} {O : List Own} {α : Type} {ra : Rp α} {x : α} {D D' : Ends} {g : Hp} (h : RT K B Γ O ra x D) (hr : D'.rt = D.rt := by rfl) : RT K (B.push g) Γ O ra x D' := fun v σ G H W r => by
  rw [hr]
  exact h v σ G H W.unbase r
section
variable {ι : Type} {F : ι → Cx} {K : Fg} {B : Bs} {Γ : Gm} {O : List Own} {α β γ : Type} {ra : Rp α} {rb : Rp β} {rc : Rp γ} {e : Expr}
/-- tuple(t) of a tuple is the same -/
theorem c_tupleT {xs : List α} {Φ : List α → List Own → Prop} (kk : Φ xs O) (hK : ∀ j, (F j).K = K := by intro _; rfl) : CW F K B Γ O (.type "tuple") (fOne (rTpv ra)) xs (rTpv ra) Φ :=
  fun σ G H vs W ⟨v, e, a, ws, h1, h2, h3⟩ Q q =>
    ⟨fun xs H Q => ∃ p ys, xs = [.ref p] ∧ ((SqL K H p ys ∧ ∀ l, H l = none → Q (.ref l) (upd H l (.tup ys))) ∨ (SqT K H p ys ∧ Q (.ref p) H)), fun j => by rw [← hK j]; exact call_tuple_of, a, ws, by rw [e, h1], .inr ⟨ex_t W.sub h2, q xs O _ G H kk W (Ex.refl _) ⟨a, ws, rfl, h2, h3⟩⟩⟩
/-- a value seen as another kind -/
theorem d_re {x : α → γ → Prop} {Φ : γ → List Own → Prop} (h : DW F K B Γ O e ra fun x O1 => ∃ y, (∀ {K : Fg} {G : Hp} {v : V}, ra.rep K G v x → rc.rep K G v y) ∧ Φ y O1) : DW F K B Γ O e rc Φ := fun σ G H W Q q =>
  h σ G H W Q fun x O' v G' H' ⟨y, c, kk⟩ W' e' hv => q y O' v G' H' kk W' e' (c hv)
end
theorem find_at {α : Type} {l : List α} {p : α → Bool} {i : Nat} {x : α} (h : (l.take i).find? p = none) (hx : l[i]? = some x) (hp : p x = true) : l.find? p = some x := by
  have hi := (List.getElem?_eq_some_iff.mp hx)
  obtain ⟨hl, e⟩ := hi
  have es : l = l.take i ++ x :: l.drop (i + 1) := by
    rw [← e]
    exact (List.take_append_drop i l).symm.trans (by rw [List.drop_eq_getElem_cons hl])
  rw [es, List.find?_append, h]
  simp [hp]
theorem find_no {α : Type} {l : List α} {p : α → Bool} {i : Nat} {x : α} (h : (l.take i).find? p = none) (hx : l[i]? = some x) (hp : p x = false) : (l.take (i + 1)).find? p = none := by
  rw [List.take_add_one, hx, List.find?_append, h]
  simp [hp]
end Sk
set_option Elab.async false
set_option linter.all false
set_option maxRecDepth 100000
set_option maxHeartbeats 4100000
/-! Sk14: name = [.. for ..] on one line (the name is set ahead of the block's end). -/
namespace Sk
open PySem L2 Evl
section
variable {ι : Type} {F : ι → Cx} {K : Fg} {B : Bs} {Γ : Gm} {O : List Own} {α β γ : Type} {ra : Rp α} {rb : Rp β} {rc : Rp γ} {a b c e elt tg iter : Expr} {es ifs : List Expr} {pos p : Pos} {n : Str} {scope : Scope}
variable {P : Program} {w : World} {mg : Str → Option Value} {base : Heap} {k : Nat} {own : List (Str × Nat)}
/-- what a comprehension makes, where it stands -/
def DL (F : ι → Cx) (K : Fg) (B : Bs) (Γ : Gm) (O : List Own) (elt tg iter : Expr) (ifs : List Expr) (scope : Scope) (own : List (Str × Nat)) (r : Rp γ) (Φ : γ → List Own → Prop) : Prop :=
  ∀ σ G H, Ws K B Γ O σ G H → ∀ Q : VK, (∀ x O' v G' H', Φ x O' → Ws K B Γ O' σ G' H' → Ex G G' → r.rep K G' v x → Q v H') → tLc (WI F tg iter) (WG (blkF F scope) tg) (WTs (blkF F scope) ifs) (WE (blkF F scope) elt) (own.map (·.2)) σ H Q
theorem l_frz {Φ : List β → List Own → Prop} (h : DL F K B Γ O elt tg iter ifs scope own rAdr fun q O1 => ∃ xs O2, O1 = ⟨q, oLst rb, xs⟩ :: O2 ∧ q ∉ B.M ∧ Φ xs O2) : DL F K B Γ O elt tg iter ifs scope own (rLst rb) Φ := by
  intro σ G H W Q q
  refine h σ G H W Q fun p O1 v G1 H1 ⟨xs, O2, e1, hM, kk⟩ W1 e2 r => ?_
  subst e1
  obtain ⟨o, ⟨ws, h1, h2⟩, W2, e3⟩ := W1.frz hM
  subst h1
  exact q xs O2 v _ H1 kk W2 (e2.trans e3) ⟨p, ws, r, upd_same, h2.mono fun _ _ z => rb.mono e3 z⟩
/-- [elt for tg in iter if ..]: a list of one's own; behind i items ys is made and d holds -/
theorem l_lcO [fam : Fam F P w K mg base k] (own : List (Str × Nat)) (vs : List Nat) {Γ' : Gm} [hw : WipeG Γ vs Γ'] {js : List Nat} {Φ : Addr → List Own → Prop}
    (h : DI F K B Γ O tg iter ra fun xs O1 => ∃ (δ : Type) (Pv : Nat → List β → δ → Prop) (Of : δ → List Own), (∃ d, Pv 0 [] d ∧ O1 = Of d) ∧
      (∀ g D i x ys d, xs[i]? = some x → Pv i ys d → DG (blkF F scope) K (B.push g) Γ' (⟨D, oLst rb, ys⟩ :: Of d) tg ra x js fun Γ2 => DTs (blkF F scope) K (B.push g) Γ2 (⟨D, oLst rb, ys⟩ :: Of d) ifs fun t O2 =>
        (t = true → DW (blkF F scope) K (B.push g) Γ2 O2 elt rb fun y O3 => ∃ d', O3 = ⟨D, oLst rb, ys⟩ :: Of d' ∧ ys.length < sizeLine ∧ Pv (i + 1) (ys ++ [y]) d') ∧ (t = false → ∃ d', O2 = ⟨D, oLst rb, ys⟩ :: Of d' ∧ Pv (i + 1) ys d')) ∧
      (∀ D ys d, D ∉ B.M → Pv xs.length ys d → Φ D (⟨D, oLst rb, ys⟩ :: Of d)))
    (hv : own.map (·.2) = vs) (hjs : ∀ j ∈ js, j ∈ vs) : DL F K B Γ O elt tg iter ifs scope own rAdr Φ := by
  intro σ G H W Q q
  refine h σ G H W _ fun xs J O1 G1 H1 ⟨δ, Pv, Of, ⟨d0, p0, o0⟩, hst, hd⟩ gv W1 e1 D hD => ?_
  rw [hv]
  have hG : ∀ {G' : Hp}, Ex G1 G' → EnvR K G' σ Γ := fun e => W.env.mono (e1.trans e)
  refine ⟨fun i m H => m = xs.length - i ∧ i ≤ xs.length ∧ ∃ ys d G2, Pv i ys d ∧ Ws K (B.push G1) Γ' (⟨D, oLst rb, ys⟩ :: Of d) (wipe σ vs) G2 H, ⟨xs.length, by simp, Nat.zero_le _, [], d0, G1, p0, ?_⟩, ?_⟩
  · have W2 := (W1.newOwn hD (r := oLst rb) (x := []) ⟨[], rfl, trivial⟩).base
    rw [o0] at W2
    exact W2.env' (hw.env (hG (Ex.refl _)))
  rintro i m H2 ⟨rfl, hi, ys, d, G2, pd, W2⟩
  have eb : Ex G1 G2 := W2.bs G1 List.mem_cons_self
  by_cases hlt : i < xs.length
  · refine .inr ⟨gv.go i G2 H2 hlt eb W2.sub, fun H' => i + 1 ≤ xs.length ∧ ∃ ys d G2, Pv (i + 1) ys d ∧ Ws K (B.push G1) Γ' (⟨D, oLst rb, ys⟩ :: Of d) (wipe σ vs) G2 H', fun H' ⟨l, z⟩ => ⟨xs.length - (i + 1), by omega, rfl, l, z⟩, fun v H3 y => ?_⟩
    obtain ⟨x, G3, hx, s3, r3⟩ := gv.yld i G2 H2 v H3 hlt eb W2.sub y
    have W3 := W2.step s3
    refine hst G1 D i x ys d hx pd (wipe σ vs) G3 H3 v W3 r3 _ fun Γ2 σ2 q2 W4 wp => ⟨(wp vs hjs).trans wipe_wipe, ?_⟩
    refine q2 σ2 G3 H3 W4 _ fun t O2 G4 H4 kk W5 e5 => ?_
    have back : ∀ {O' : List Own} {G' H' : Hp}, Ws K (B.push G1) Γ2 O' σ2 G' H' → Ws K (B.push G1) Γ' O' (wipe σ vs) G' H' := fun W' => W'.env' (hw.env (hG (W'.bs G1 List.mem_cons_self)))
    cases t with
    | false =>
      obtain ⟨d', o2, p2⟩ := kk.2 rfl
      subst o2
      exact iteF ⟨hlt, ys, d', G4, p2, back W5⟩
    | true =>
      refine iteT ?_
      refine kk.1 rfl σ2 G4 H4 W5 _ fun y O3 u G5 H5 ⟨d', o3, hl, p3⟩ W6 e6 r6 => ?_
      subst o3
      obtain ⟨⟨ob, h1, ws, h2, h3⟩, _⟩ := W6.own _ List.mem_cons_self
      subst h2
      refine ⟨ws, h1, by rw [h3.length]; exact hl, hlt, ys ++ [y], d', G5, p3, ?_⟩
      exact back (W6.mutHd (r' := oLst rb) (x' := ys ++ [y]) ⟨ws ++ [u], rfl, h3.append ⟨r6, trivial⟩⟩)
  · obtain rfl : i = xs.length := by omega
    refine .inl ⟨gv.stop G2 H2 eb W2.sub, q D _ (.ref D) G2 H2 (hd D ys d (W1.notM hD) pd) (W2.unbase.env' (hG eb)) (e1.trans eb) rfl⟩
theorem l_lcF [fam : Fam F P w K mg base k] (own : List (Str × Nat)) (vs : List Nat) {Γ' : Gm} [hw : WipeG Γ vs Γ'] {js : List Nat} {f : α → β} {g : α → Bool} {Φ : List β → List Own → Prop}
    (h : DI F K B Γ O tg iter ra fun xs O1 => O1 = O ∧ xs.length ≤ sizeLine ∧
      (∀ gg D ys x, x ∈ xs → DG (blkF F scope) K (B.push gg) Γ' (⟨D, oLst rb, ys⟩ :: O) tg ra x js fun Γ2 => DTs (blkF F scope) K (B.push gg) Γ2 (⟨D, oLst rb, ys⟩ :: O) ifs fun t O2 =>
        t = g x ∧ O2 = ⟨D, oLst rb, ys⟩ :: O ∧ (g x = true → DW (blkF F scope) K (B.push gg) Γ2 (⟨D, oLst rb, ys⟩ :: O) elt rb fun y O3 => y = f x ∧ O3 = ⟨D, oLst rb, ys⟩ :: O)) ∧
      Φ ((xs.filter g).map f) O)
    (hv : own.map (·.2) = vs) (hjs : ∀ j ∈ js, j ∈ vs) : DL F K B Γ O elt tg iter ifs scope own (rLst rb) Φ := by
  refine l_frz (l_lcO (ra := ra) (rb := rb) own vs ?_ hv hjs)
  intro σ G H W R q
  refine h σ G H W R fun xs J O1 G1 H1 ⟨e1, hl, ht, hd⟩ gv W1 ee => q xs J O1 G1 H1 ⟨Unit, fun i ys _ => i ≤ xs.length ∧ ys = ((xs.take i).filter g).map f, fun _ => O, ⟨(), ⟨Nat.zero_le _, rfl⟩, e1⟩, fun gg D i x ys d hx ⟨hi, hy⟩ => ?_, fun D ys d hM ⟨_, hy⟩ => ?_⟩ gv W1 ee
  · have hlt : i < xs.length := (List.getElem?_eq_some_iff.mp hx).1
    have hmem := List.mem_of_getElem? hx
    have hlen : ys.length ≤ i := by
      rw [hy, List.length_map]
      refine Nat.le_trans (List.length_filter_le _ _) ?_
      rw [List.length_take]
      exact Nat.min_le_left _ _
    intro σ2 G2 H2 v W2 r2 Q2 q2
    refine ht gg D ys x hmem σ2 G2 H2 v W2 r2 Q2 fun Γ2 σ' p W' wp => q2 Γ2 σ' (fun σ3 G3 H3 W3 Q3 q3 => p σ3 G3 H3 W3 Q3 fun t O2 G4 H4 ⟨p1, p2, p3⟩ W4 e4 => q3 t O2 G4 H4 ?_ W4 e4) W' wp
    subst p1 p2
    refine ⟨fun ht => d_mono (p3 ht) fun y O3 ⟨z1, z2⟩ => ⟨(), z2, by omega, hlt, ?_⟩, fun ht => ⟨(), rfl, hlt, ?_⟩⟩
    · rw [take_snoc hx, List.filter_append, List.map_append, ← hy, z1]
      congr 1
      simp [ht]
    · rw [take_snoc hx, List.filter_append, List.map_append, ← hy]
      simp [ht]
  · rw [List.take_length] at hy
    subst hy
    exact ⟨_, _, rfl, hM, hd⟩
/-- without a test -/
theorem l_lcP [fam : Fam F P w K mg base k] (own : List (Str × Nat)) (vs : List Nat) {Γ' : Gm} [hw : WipeG Γ vs Γ'] {js : List Nat} {f : α → β} {Φ : List β → List Own → Prop}
    (h : DI F K B Γ O tg iter ra fun xs O1 => O1 = O ∧ xs.length ≤ sizeLine ∧
      (∀ gg D ys x, x ∈ xs → DG (blkF F scope) K (B.push gg) Γ' (⟨D, oLst rb, ys⟩ :: O) tg ra x js fun Γ2 =>
        DW (blkF F scope) K (B.push gg) Γ2 (⟨D, oLst rb, ys⟩ :: O) elt rb fun y O3 => y = f x ∧ O3 = ⟨D, oLst rb, ys⟩ :: O) ∧ Φ (xs.map f) O)
    (hv : own.map (·.2) = vs) (hjs : ∀ j ∈ js, j ∈ vs) : DL F K B Γ O elt tg iter [] scope own (rLst rb) Φ := by
  refine l_lcF (ra := ra) (f := f) (g := fun _ => true) own vs ?_ hv hjs
  intro σ G H W R q
  refine h σ G H W R fun xs J O1 G1 H1 ⟨e1, hl, ht, hd⟩ gv W1 ee => q xs J O1 G1 H1 ⟨e1, hl, fun gg D ys x hx σ2 G2 H2 v W2 r2 Q2 q2 => ht gg D ys x hx σ2 G2 H2 v W2 r2 Q2 fun Γ2 σ' p W' wp => q2 Γ2 σ' (dts_nil ⟨rfl, rfl, fun _ => p⟩) W' wp, ?_⟩ gv W1 ee
  have e : xs.filter (fun _ => true) = xs := List.filter_eq_self.mpr fun _ _ => rfl
  rw [e]
  exact hd
/-- name = [..] -/
theorem s_lc {X : Cx} [fam : Fam (Us X) P w K mg base k] (i : Nat) {f : Option Slot → Gm} [hg : SetG Γ i f] {rest : List Stmt} {D : Ends} {spos : Pos} {r : Rp γ} (own : List (Str × Nat)) (ok : BlkOk X.N X.env.scope scope own)
    (h : DL (Us X) K B Γ O elt tg iter ifs scope own r fun x O' => DS X K B (f (some ⟨r, x⟩)) O' rest D) (hi : X.N[i]? = some n := by rfl) (hx : X.env.scope.names.lookup n = some .local := by rfl)
    (hs : ∀ x, foldedSetIterable iter X.env x = pure x := by intro _; rfl) (hsw : swapsWith (.ListComp elt [⟨tg, iter, ifs, 0⟩] scope pos) (some (.Name n p)) spos.line X.env = pure true := by exact sw_true (by rfl) (by rfl) (by rfl) (by rfl)) :
    DS X K B Γ O (.Assign [.Name n p] (.ListComp elt [⟨tg, iter, ifs, 0⟩] scope pos) spos :: rest) D := by
  intro σ G H W
  refine WSs.cons (ps_setLc (wi := WI (Us X) tg iter) (g := WG (blkF (Us X) scope) tg) (tt := WTs (blkF (Us X) scope) ifs) (te := WE (blkF (Us X) scope) elt) (fam.cm ()) (fam.nd ()) hi hx hsw (WI.pi (F := Us X) ()) ok (fun s H C cl fp => WG.pg (F := blkF (Us X) scope) ((), s, H, C, cl, fp))
    (fun s H C cl fp => WTs.pts (F := blkF (Us X) scope) ((), s, H, C, cl, fp)) (fun s H C cl fp => WE.pe (F := blkF (Us X) scope) ((), s, H, C, cl, fp)) hs) ?_
  exact h σ G H W _ fun x O' v G' H' k W' _ r' => k _ G' H' (by rw [hg.eq]; exact W'.set i r')
theorem s_lcO {X : Cx} [fam : Fam (Us X) P w K mg base k] (i0 : Nat) {f0 : Option Slot → Gm} [hg : SetG Γ i0 f0] {rest : List Stmt} {D0 : Ends} {spos : Pos} (own : List (Str × Nat)) (vs : List Nat) (ok : Unit → BlkOk X.N X.env.scope scope own) {Γ' : Gm} [hw : WipeG Γ vs Γ'] {js : List Nat}
    (h : DI (Us X) K B Γ O tg iter ra fun xs O1 => ∃ (δ : Type) (Pv : Nat → List β → δ → Prop) (Of : δ → List Own), (∃ d, Pv 0 [] d ∧ O1 = Of d) ∧
      (∀ g D i x ys d, xs[i]? = some x → Pv i ys d → DG (blkF (Us X) scope) K (B.push g) Γ' (⟨D, oLst rb, ys⟩ :: Of d) tg ra x js fun Γ2 => DTs (blkF (Us X) scope) K (B.push g) Γ2 (⟨D, oLst rb, ys⟩ :: Of d) ifs fun t O2 =>
        (t = true → DW (blkF (Us X) scope) K (B.push g) Γ2 O2 elt rb fun y O3 => ∃ d', O3 = ⟨D, oLst rb, ys⟩ :: Of d' ∧ ys.length < sizeLine ∧ Pv (i + 1) (ys ++ [y]) d') ∧ (t = false → ∃ d', O2 = ⟨D, oLst rb, ys⟩ :: Of d' ∧ Pv (i + 1) ys d')) ∧
      (∀ D ys d, D ∉ B.M → Pv xs.length ys d → DS X K B (f0 (some ⟨rAdr, D⟩)) (⟨D, oLst rb, ys⟩ :: Of d) rest D0))
    (hi : X.N[i0]? = some n := by rfl) (hx : X.env.scope.names.lookup n = some .local := by rfl) (hv : own.map (·.2) = vs := by rfl) (hjs : ∀ j ∈ js, j ∈ vs := by decide)
    (hs : ∀ x, foldedSetIterable iter X.env x = pure x := by intro _; rfl) (hsw : swapsWith (.ListComp elt [⟨tg, iter, ifs, 0⟩] scope pos) (some (.Name n p)) spos.line X.env = pure true := by exact sw_true (by rfl) (by rfl) (by rfl) (by rfl)) :
    DS X K B Γ O (.Assign [.Name n p] (.ListComp elt [⟨tg, iter, ifs, 0⟩] scope pos) spos :: rest) D0 :=
  s_lc i0 own (ok ()) (l_lcO (ra := ra) (rb := rb) own vs h hv hjs) hi hx hs hsw
theorem s_lcF {X : Cx} [fam : Fam (Us X) P w K mg base k] (i0 : Nat) {f0 : Option Slot → Gm} [hg : SetG Γ i0 f0] {rest : List Stmt} {D0 : Ends} {spos : Pos} (own : List (Str × Nat)) (vs : List Nat) (ok : Unit → BlkOk X.N X.env.scope scope own) {Γ' : Gm} [hw : WipeG Γ vs Γ'] {js : List Nat} {f : α → β} {g : α → Bool}
    (h : DI (Us X) K B Γ O tg iter ra fun xs O1 => O1 = O ∧ xs.length ≤ sizeLine ∧
      (∀ gg D ys x, x ∈ xs → DG (blkF (Us X) scope) K (B.push gg) Γ' (⟨D, oLst rb, ys⟩ :: O) tg ra x js fun Γ2 => DTs (blkF (Us X) scope) K (B.push gg) Γ2 (⟨D, oLst rb, ys⟩ :: O) ifs fun t O2 =>
        t = g x ∧ O2 = ⟨D, oLst rb, ys⟩ :: O ∧ (g x = true → DW (blkF (Us X) scope) K (B.push gg) Γ2 (⟨D, oLst rb, ys⟩ :: O) elt rb fun y O3 => y = f x ∧ O3 = ⟨D, oLst rb, ys⟩ :: O)) ∧
      DS X K B (f0 (some ⟨rLst rb, (xs.filter g).map f⟩)) O rest D0)
    (hi : X.N[i0]? = some n := by rfl) (hx : X.env.scope.names.lookup n = some .local := by rfl) (hv : own.map (·.2) = vs := by rfl) (hjs : ∀ j ∈ js, j ∈ vs := by decide)
    (hs : ∀ x, foldedSetIterable iter X.env x = pure x := by intro _; rfl) (hsw : swapsWith (.ListComp elt [⟨tg, iter, ifs, 0⟩] scope pos) (some (.Name n p)) spos.line X.env = pure true := by exact sw_true (by rfl) (by rfl) (by rfl) (by rfl)) :
    DS X K B Γ O (.Assign [.Name n p] (.ListComp elt [⟨tg, iter, ifs, 0⟩] scope pos) spos :: rest) D0 :=
  s_lc i0 own (ok ()) (l_lcF (ra := ra) (rb := rb) own vs h hv hjs) hi hx hs hsw
theorem s_lcP {X : Cx} [fam : Fam (Us X) P w K mg base k] (i0 : Nat) {f0 : Option Slot → Gm} [hg : SetG Γ i0 f0] {rest : List Stmt} {D0 : Ends} {spos : Pos} (own : List (Str × Nat)) (vs : List Nat) (ok : Unit → BlkOk X.N X.env.scope scope own) {Γ' : Gm} [hw : WipeG Γ vs Γ'] {js : List Nat} {f : α → β}
    (h : DI (Us X) K B Γ O tg iter ra fun xs O1 => O1 = O ∧ xs.length ≤ sizeLine ∧
      (∀ gg D ys x, x ∈ xs → DG (blkF (Us X) scope) K (B.push gg) Γ' (⟨D, oLst rb, ys⟩ :: O) tg ra x js fun Γ2 =>
        DW (blkF (Us X) scope) K (B.push gg) Γ2 (⟨D, oLst rb, ys⟩ :: O) elt rb fun y O3 => y = f x ∧ O3 = ⟨D, oLst rb, ys⟩ :: O) ∧ DS X K B (f0 (some ⟨rLst rb, xs.map f⟩)) O rest D0)
    (hi : X.N[i0]? = some n := by rfl) (hx : X.env.scope.names.lookup n = some .local := by rfl) (hv : own.map (·.2) = vs := by rfl) (hjs : ∀ j ∈ js, j ∈ vs := by decide)
    (hs : ∀ x, foldedSetIterable iter X.env x = pure x := by intro _; rfl) (hsw : swapsWith (.ListComp elt [⟨tg, iter, [], 0⟩] scope pos) (some (.Name n p)) spos.line X.env = pure true := by exact sw_true (by rfl) (by rfl) (by rfl) (by rfl)) :
    DS X K B Γ O (.Assign [.Name n p] (.ListComp elt [⟨tg, iter, [], 0⟩] scope pos) spos :: rest) D0 :=
  s_lc i0 own (ok ()) (l_lcP (ra := ra) (rb := rb) own vs h hv hjs) hi hx hs hsw
end
end Sk
set_option Elab.async false
set_option linter.all false
set_option maxRecDepth 100000
set_option maxHeartbeats 4100000
/-! Sk15: an own list is walked, while it stands as it is. -/
namespace Sk
open PySem L2 Evl
section
variable {ι : Type} {F : ι → Cx} {K : Fg} {B : Bs} {Γ : Gm} {O : List Own} {α β γ : Type} {ra : Rp α} {rb : Rp β} {rc : Rp γ} {a b c e elt tg iter : Expr} {es ifs : List Expr} {pos p : Pos} {n : Str} {scope : Scope}
variable {P : Program} {w : World} {mg : Str → Option Value} {base : Heap} {k : Nat} {own : List (Str × Nat)}
section
variable {σ : St} {G H H' : Hp} {q : Addr} {xs : List α} {i : Nat} {v : V}
theorem own_lst (m : (⟨q, oLst ra, xs⟩ : Own) ∈ O) (W : Ws K B Γ O σ G H) : ∃ vs, H q = some (.lst vs) ∧ All2 (ra.rep K G) vs xs := by
  obtain ⟨⟨o, h1, vs, h2, h3⟩, _⟩ := W.own _ m
  subst h2
  exact ⟨vs, h1, h3⟩
theorem own_go (m : (⟨q, oLst ra, xs⟩ : Own) ∈ O) (W : Ws K B Γ O σ G H) (hi : i < xs.length) : (Itl K q).go i H := by
  obtain ⟨vs, h1, h3⟩ := own_lst m W
  have hv : i < vs.length := by rw [h3.length]; exact hi
  exact ⟨vs, vs[i], SqL.of h1, List.getElem?_eq_getElem hv⟩
theorem own_stop (m : (⟨q, oLst ra, xs⟩ : Own) ∈ O) (W : Ws K B Γ O σ G H) : (Itl K q).stop xs.length H := by
  obtain ⟨vs, h1, h3⟩ := own_lst m W
  exact ⟨vs, SqL.of h1, by rw [h3.length]; exact Nat.le_refl _⟩
theorem own_yld (m : (⟨q, oLst ra, xs⟩ : Own) ∈ O) (W : Ws K B Γ O σ G H) (hi : i < xs.length) (y : (Itl K q).yld i H v H') : ∃ x G', xs[i]? = some x ∧ Stp B.T [] G H G' H' ∧ ra.rep K G' v x := by
  obtain ⟨vs, h1, h3⟩ := own_lst m W
  obtain ⟨e1, e2⟩ := y
  obtain ⟨x, hx, hr⟩ := h3.get (e2 vs (SqL.of h1))
  subst e1
  exact ⟨x, G, hx, Stp.refl W.sub, hr⟩
end
def DIo (F : ι → Cx) (K : Fg) (B : Bs) (Γ : Gm) (O : List Own) (tg e : Expr) (r : Rp α) (Φ : Addr → List α → List Own → Prop) : Prop :=
  ∀ σ G H, Ws K B Γ O σ G H → ∀ R : It → Hp → Prop, (∀ q xs O' G' H', Φ q xs O' → (⟨q, oLst r, xs⟩ : Own) ∈ O' → Ws K B Γ O' σ G' H' → Ex G G' → R (Itl K q) H') → WI F tg e σ H R
theorem w_own [fam : Fam F P w K mg base k] {Φ : Addr → List α → List Own → Prop} (h : DW F K B Γ O e rAdr fun q O1 => ∃ xs f, OwnAt O1 q (oLst ra) xs f ∧ Φ q xs O1) : DIo F K B Γ O tg e ra Φ := by
  intro σ G H W R q
  refine ⟨iList K (WE F e), fun i => by rw [← fam.ka i]; exact pi_list (WE.pe i), ?_⟩
  refine h σ G H W _ fun c O' v G' H' ⟨xs, f, hO, kk⟩ W' e' r' => ?_
  obtain ⟨j, hj, _⟩ := hO.at_
  have m := List.mem_of_getElem? hj
  obtain ⟨vs, h1, h3⟩ := own_lst m W'
  exact ⟨c, r', ⟨vs, SqL.of h1⟩, q c xs O' G' H' kk m W' e'⟩
theorem l_lcOw [fam : Fam F P w K mg base k] (own : List (Str × Nat)) (vs : List Nat) {Γ' : Gm} [hw : WipeG Γ vs Γ'] {js : List Nat} {Φ : Addr → List Own → Prop}
    (h : DIo F K B Γ O tg iter ra fun q0 xs O1 => ∃ (δ : Type) (Pv : Nat → List β → δ → Prop) (Of : δ → List Own), (∃ d, Pv 0 [] d ∧ O1 = Of d) ∧ (∀ i ys d, Pv i ys d → (⟨q0, oLst ra, xs⟩ : Own) ∈ Of d) ∧
      (∀ g D i x ys d, xs[i]? = some x → Pv i ys d → DG (blkF F scope) K (B.push g) Γ' (⟨D, oLst rb, ys⟩ :: Of d) tg ra x js fun Γ2 => DTs (blkF F scope) K (B.push g) Γ2 (⟨D, oLst rb, ys⟩ :: Of d) ifs fun t O2 =>
        (t = true → DW (blkF F scope) K (B.push g) Γ2 O2 elt rb fun y O3 => ∃ d', O3 = ⟨D, oLst rb, ys⟩ :: Of d' ∧ ys.length < sizeLine ∧ Pv (i + 1) (ys ++ [y]) d') ∧ (t = false → ∃ d', O2 = ⟨D, oLst rb, ys⟩ :: Of d' ∧ Pv (i + 1) ys d')) ∧
      (∀ D ys d, D ∉ B.M → Pv xs.length ys d → Φ D (⟨D, oLst rb, ys⟩ :: Of d)))
    (hv : own.map (·.2) = vs) (hjs : ∀ j ∈ js, j ∈ vs) : DL F K B Γ O elt tg iter ifs scope own rAdr Φ := by
  intro σ G H W Q q
  refine h σ G H W _ fun q0 xs O1 G1 H1 ⟨δ, Pv, Of, ⟨d0, p0, o0⟩, hmem, hst, hd⟩ _ W1 e1 D hD => ?_
  rw [hv]
  have hG : ∀ {G' : Hp}, Ex G1 G' → EnvR K G' σ Γ := fun e => W.env.mono (e1.trans e)
  refine ⟨fun i m H => m = xs.length - i ∧ i ≤ xs.length ∧ ∃ ys d G2, Pv i ys d ∧ Ws K (B.push G1) Γ' (⟨D, oLst rb, ys⟩ :: Of d) (wipe σ vs) G2 H, ⟨xs.length, by simp, Nat.zero_le _, [], d0, G1, p0, ?_⟩, ?_⟩
  · have W2 := (W1.newOwn hD (r := oLst rb) (x := []) ⟨[], rfl, trivial⟩).base
    rw [o0] at W2
    exact W2.env' (hw.env (hG (Ex.refl _)))
  rintro i m H2 ⟨rfl, hi, ys, d, G2, pd, W2⟩
  have eb : Ex G1 G2 := W2.bs G1 List.mem_cons_self
  by_cases hlt : i < xs.length
  · refine .inr ⟨own_go (List.mem_cons_of_mem _ (hmem i ys d pd)) W2 hlt, fun H' => i + 1 ≤ xs.length ∧ ∃ ys d G2, Pv (i + 1) ys d ∧ Ws K (B.push G1) Γ' (⟨D, oLst rb, ys⟩ :: Of d) (wipe σ vs) G2 H', fun H' ⟨l, z⟩ => ⟨xs.length - (i + 1), by omega, rfl, l, z⟩, fun v H3 y => ?_⟩
    obtain ⟨x, G3, hx, s3, r3⟩ := own_yld (List.mem_cons_of_mem _ (hmem i ys d pd)) W2 hlt y
    have W3 := W2.step s3
    refine hst G1 D i x ys d hx pd (wipe σ vs) G3 H3 v W3 r3 _ fun Γ2 σ2 q2 W4 wp => ⟨(wp vs hjs).trans wipe_wipe, ?_⟩
    refine q2 σ2 G3 H3 W4 _ fun t O2 G4 H4 kk W5 e5 => ?_
    have back : ∀ {O' : List Own} {G' H' : Hp}, Ws K (B.push G1) Γ2 O' σ2 G' H' → Ws K (B.push G1) Γ' O' (wipe σ vs) G' H' := fun W' => W'.env' (hw.env (hG (W'.bs G1 List.mem_cons_self)))
    cases t with
    | false =>
      obtain ⟨d', o2, p2⟩ := kk.2 rfl
      subst o2
      exact iteF ⟨hlt, ys, d', G4, p2, back W5⟩
    | true =>
      refine iteT ?_
      refine kk.1 rfl σ2 G4 H4 W5 _ fun y O3 u G5 H5 ⟨d', o3, hl, p3⟩ W6 e6 r6 => ?_
      subst o3
      obtain ⟨⟨ob, h1, ws, h2, h3⟩, _⟩ := W6.own _ List.mem_cons_self
      subst h2
      refine ⟨ws, h1, by rw [h3.length]; exact hl, hlt, ys ++ [y], d', G5, p3, ?_⟩
      exact back (W6.mutHd (r' := oLst rb) (x' := ys ++ [y]) ⟨ws ++ [u], rfl, h3.append ⟨r6, trivial⟩⟩)
  · obtain rfl : i = xs.length := by omega
    refine .inl ⟨own_stop (List.mem_cons_of_mem _ (hmem _ ys d pd)) W2, q D _ (.ref D) G2 H2 (hd D ys d (W1.notM hD) pd) (W2.unbase.env' (hG eb)) (e1.trans eb) rfl⟩
theorem l_lcFw [fam : Fam F P w K mg base k] (own : List (Str × Nat)) (vs : List Nat) {Γ' : Gm} [hw : WipeG Γ vs Γ'] {js : List Nat} {f : α → β} {g : α → Bool} {Φ : List β → List Own → Prop}
    (h : DIo F K B Γ O tg iter ra fun q0 xs O1 => O1 = O ∧ xs.length ≤ sizeLine ∧
      (∀ gg D ys x, x ∈ xs → DG (blkF F scope) K (B.push gg) Γ' (⟨D, oLst rb, ys⟩ :: O) tg ra x js fun Γ2 => DTs (blkF F scope) K (B.push gg) Γ2 (⟨D, oLst rb, ys⟩ :: O) ifs fun t O2 =>
        t = g x ∧ O2 = ⟨D, oLst rb, ys⟩ :: O ∧ (g x = true → DW (blkF F scope) K (B.push gg) Γ2 (⟨D, oLst rb, ys⟩ :: O) elt rb fun y O3 => y = f x ∧ O3 = ⟨D, oLst rb, ys⟩ :: O)) ∧
      Φ ((xs.filter g).map f) O)
    (hv : own.map (·.2) = vs) (hjs : ∀ j ∈ js, j ∈ vs) : DL F K B Γ O elt tg iter ifs scope own (rLst rb) Φ := by
  refine l_frz (l_lcOw (ra := ra) (rb := rb) own vs ?_ hv hjs)
  intro σ G H W R q
  refine h σ G H W R fun q0 xs O1 G1 H1 ⟨e1, hl, ht, hd⟩ hm0 W1 ee => q q0 xs O1 G1 H1 ⟨Unit, fun i ys _ => i ≤ xs.length ∧ ys = ((xs.take i).filter g).map f, fun _ => O, ⟨(), ⟨Nat.zero_le _, rfl⟩, e1⟩, fun _ _ _ _ => e1 ▸ hm0, fun gg D i x ys d hx ⟨hi, hy⟩ => ?_, fun D ys d hM ⟨_, hy⟩ => ?_⟩ hm0 W1 ee
  · have hlt : i < xs.length := (List.getElem?_eq_some_iff.mp hx).1
    have hmem := List.mem_of_getElem? hx
    have hlen : ys.length ≤ i := by
      rw [hy, List.length_map]
      refine Nat.le_trans (List.length_filter_le _ _) ?_
      rw [List.length_take]
      exact Nat.min_le_left _ _
    intro σ2 G2 H2 v W2 r2 Q2 q2
    refine ht gg D ys x hmem σ2 G2 H2 v W2 r2 Q2 fun Γ2 σ' p W' wp => q2 Γ2 σ' (fun σ3 G3 H3 W3 Q3 q3 => p σ3 G3 H3 W3 Q3 fun t O2 G4 H4 ⟨p1, p2, p3⟩ W4 e4 => q3 t O2 G4 H4 ?_ W4 e4) W' wp
    subst p1 p2
    refine ⟨fun ht => d_mono (p3 ht) fun y O3 ⟨z1, z2⟩ => ⟨(), z2, by omega, hlt, ?_⟩, fun ht => ⟨(), rfl, hlt, ?_⟩⟩
    · rw [take_snoc hx, List.filter_append, List.map_append, ← hy, z1]
      congr 1
      simp [ht]
    · rw [take_snoc hx, List.filter_append, List.map_append, ← hy]
      simp [ht]
  · rw [List.take_length] at hy
    subst hy
    exact ⟨_, _, rfl, hM, hd⟩
theorem l_lcPw [fam : Fam F P w K mg base k] (own : List (Str × Nat)) (vs : List Nat) {Γ' : Gm} [hw : WipeG Γ vs Γ'] {js : List Nat} {f : α → β} {Φ : List β → List Own → Prop}
    (h : DIo F K B Γ O tg iter ra fun q0 xs O1 => O1 = O ∧ xs.length ≤ sizeLine ∧
      (∀ gg D ys x, x ∈ xs → DG (blkF F scope) K (B.push gg) Γ' (⟨D, oLst rb, ys⟩ :: O) tg ra x js fun Γ2 =>
        DW (blkF F scope) K (B.push gg) Γ2 (⟨D, oLst rb, ys⟩ :: O) elt rb fun y O3 => y = f x ∧ O3 = ⟨D, oLst rb, ys⟩ :: O) ∧ Φ (xs.map f) O)
    (hv : own.map (·.2) = vs) (hjs : ∀ j ∈ js, j ∈ vs) : DL F K B Γ O elt tg iter [] scope own (rLst rb) Φ := by
  refine l_lcFw (ra := ra) (f := f) (g := fun _ => true) own vs ?_ hv hjs
  intro σ G H W R q
  refine h σ G H W R fun q0 xs O1 G1 H1 ⟨e1, hl, ht, hd⟩ hm0 W1 ee => q q0 xs O1 G1 H1 ⟨e1, hl, fun gg D ys x hx σ2 G2 H2 v W2 r2 Q2 q2 => ht gg D ys x hx σ2 G2 H2 v W2 r2 Q2 fun Γ2 σ' p W' wp => q2 Γ2 σ' (dts_nil ⟨rfl, rfl, fun _ => p⟩) W' wp, ?_⟩ hm0 W1 ee
  have e : xs.filter (fun _ => true) = xs := List.filter_eq_self.mpr fun _ _ => rfl
  rw [e]
  exact hd
/-- as a value -/
theorem d_lcL [fam : Fam F P w K mg base k] {r : Rp γ} {Φ : γ → List Own → Prop} (own : List (Str × Nat)) (ok : ∀ i, BlkOk (F i).N (F i).env.scope scope own) (h : DL F K B Γ O elt tg iter ifs scope own r Φ)
    (hs : ∀ i x, foldedSetIterable iter (F i).env x = pure x := by intro _ _; rfl) : DW F K B Γ O (.ListComp elt [⟨tg, iter, ifs, 0⟩] scope pos) r Φ := by
  intro σ G H W Q q
  refine ⟨tLc (WI F tg iter) (WG (blkF F scope) tg) (WTs (blkF F scope) ifs) (WE (blkF F scope) elt) (own.map (·.2)), fun i => pe_lc (fam.cm i) (fam.nd i) (WI.pi i) (ok i) (fun s H C cl fp => WG.pg (F := blkF F scope) (i, s, H, C, cl, fp))
    (fun s H C cl fp => WTs.pts (F := blkF F scope) (i, s, H, C, cl, fp)) (fun s H C cl fp => WE.pe (F := blkF F scope) (i, s, H, C, cl, fp)) (hs i), ?_⟩
  exact h σ G H W Q q
theorem d_lcPw [fam : Fam F P w K mg base k] (own : List (Str × Nat)) (vs : List Nat) (ok : ∀ i, BlkOk (F i).N (F i).env.scope scope own) {Γ' : Gm} [hw : WipeG Γ vs Γ'] {js : List Nat} {f : α → β} {Φ : List β → List Own → Prop}
    (h : DIo F K B Γ O tg iter ra fun q0 xs O1 => O1 = O ∧ xs.length ≤ sizeLine ∧
      (∀ gg D ys x, x ∈ xs → DG (blkF F scope) K (B.push gg) Γ' (⟨D, oLst rb, ys⟩ :: O) tg ra x js fun Γ2 =>
        DW (blkF F scope) K (B.push gg) Γ2 (⟨D, oLst rb, ys⟩ :: O) elt rb fun y O3 => y = f x ∧ O3 = ⟨D, oLst rb, ys⟩ :: O) ∧ Φ (xs.map f) O)
    (hv : own.map (·.2) = vs := by rfl) (hjs : ∀ j ∈ js, j ∈ vs := by decide) (hs : ∀ i x, foldedSetIterable iter (F i).env x = pure x := by intro _ _; rfl) :
    DW F K B Γ O (.ListComp elt [⟨tg, iter, [], 0⟩] scope pos) (rLst rb) Φ :=
  d_lcL own ok (l_lcPw (ra := ra) (rb := rb) own vs h hv hjs) hs
theorem s_lcFw {X : Cx} [fam : Fam (Us X) P w K mg base k] (i0 : Nat) {f0 : Option Slot → Gm} [hg : SetG Γ i0 f0] {rest : List Stmt} {D0 : Ends} {spos : Pos} (own : List (Str × Nat)) (vs : List Nat) (ok : Unit → BlkOk X.N X.env.scope scope own) {Γ' : Gm} [hw : WipeG Γ vs Γ'] {js : List Nat} {f : α → β} {g : α → Bool}
    (h : DIo (Us X) K B Γ O tg iter ra fun q0 xs O1 => O1 = O ∧ xs.length ≤ sizeLine ∧
      (∀ gg D ys x, x ∈ xs → DG (blkF (Us X) scope) K (B.push gg) Γ' (⟨D, oLst rb, ys⟩ :: O) tg ra x js fun Γ2 => DTs (blkF (Us X) scope) K (B.push gg) Γ2 (⟨D, oLst rb, ys⟩ :: O) ifs fun t O2 =>
        t = g x ∧ O2 = ⟨D, oLst rb, ys⟩ :: O ∧ (g x = true → DW (blkF (Us X) scope) K (B.push gg) Γ2 (⟨D, oLst rb, ys⟩ :: O) elt rb fun y O3 => y = f x ∧ O3 = ⟨D, oLst rb, ys⟩ :: O)) ∧
      DS X K B (f0 (some ⟨rLst rb, (xs.filter g).map f⟩)) O rest D0)
    (hi : X.N[i0]? = some n := by rfl) (hx : X.env.scope.names.lookup n = some .local := by rfl) (hv : own.map (·.2) = vs := by rfl) (hjs : ∀ j ∈ js, j ∈ vs := by decide)
    (hs : ∀ x, foldedSetIterable iter X.env x = pure x := by intro _; rfl) (hsw : swapsWith (.ListComp elt [⟨tg, iter, ifs, 0⟩] scope pos) (some (.Name n p)) spos.line X.env = pure true := by exact sw_true (by rfl) (by rfl) (by rfl) (by rfl)) :
    DS X K B Γ O (.Assign [.Name n p] (.ListComp elt [⟨tg, iter, ifs, 0⟩] scope pos) spos :: rest) D0 :=
  s_lc i0 own (ok ()) (l_lcFw (ra := ra) (rb := rb) own vs h hv hjs) hi hx hs hsw
end
section
variable {X : Cx} {K : Fg} {B : Bs} {Γ Γ' : Gm} {O O' : List Own} {α β : Type} {ra : Rp α} {D D0 : Ends} {e c tg iter : Expr} {rest body : List Stmt} {n : Str} {pos p : Pos}
variable {P : Program} {w : World} {mg : Str → Option Value} {base : Heap} {k : Nat}
theorem s_forO [fam : Fam (Us X) P w K mg base k] {js : List Nat}
    (h : DIo (Us X) K B Γ O tg iter ra fun q0 xs O1 => ∃ (δ : Type) (Pv : Nat → δ → Prop) (Γf : δ → Gm) (Of : δ → List Own), (∃ d, Pv 0 d ∧ Wk Γ (Γf d) ∧ O1 = Of d) ∧ (∀ i d, Pv i d → (⟨q0, oLst ra, xs⟩ : Own) ∈ Of d) ∧
      (∀ g i x d, xs[i]? = some x → Pv i d → DG (Us X) K (B.push g) (Γf d) (Of d) tg ra x js fun Γ' => DS X K (B.push g) Γ' (Of d) body (LpE X K (B.push g) (Pv (i + 1)) Γf Of rest D)) ∧
      (∀ d, Pv xs.length d → DS X K B (Γf d) (Of d) rest D))
    (hp : PassesOwn (model X.prog X.w) X.A X.env X.xe := by first | exact PassesOwn.never | assumption) (hs : ∀ x, foldedSetIterable iter X.env x = pure x := by intro _; rfl) : DS X K B Γ O (.For tg iter body [] pos :: rest) D := by
  intro σ G H W
  refine WSs.cons (ps_for hp (fam.cm ()) (WI.pi (F := Us X) ()) (WG.pg (F := Us X) ()) (WSs.pss (X := X)) hs) ?_
  refine h σ G H W _ fun q0 xs O1 G1 H1 ⟨δ, Pv, Γf, Of, ⟨d0, p0, w0, o0⟩, hmem, hst, hd⟩ _ W1 _ => ?_
  refine ⟨fun i m σ H => m = xs.length - i ∧ i ≤ xs.length ∧ LpJ K (B.push G1) (Pv i) Γf Of σ H, ⟨xs.length, by simp, Nat.zero_le _, d0, G1, p0, ?_⟩, ?_⟩
  · rw [← o0]
    exact (W1.wk w0).base
  rintro i m σ2 H2 ⟨rfl, hi, d, G2, pd, W2⟩
  by_cases hlt : i < xs.length
  · refine .inr ⟨own_go (hmem i d pd) W2 hlt, LpJ K (B.push G1) (Pv (i + 1)) Γf Of, fun σ' H' j => ⟨xs.length - (i + 1), by omega, rfl, hlt, j⟩, fun v H3 y => ?_⟩
    obtain ⟨x, G3, hx, s3, r3⟩ := own_yld (hmem i d pd) W2 hlt y
    exact hst G1 i x d hx pd σ2 G3 H3 v (W2.step s3) r3 _ fun Γ' σ' q W' _ => q σ' G3 H3 W'
  · obtain rfl : i = xs.length := by omega
    exact .inl ⟨own_stop (hmem _ d pd) W2, hd d pd σ2 G2 H2 W2.unbase⟩
end
end Sk
set_option Elab.async false
set_option linter.all false
set_option maxRecDepth 100000
set_option maxHeartbeats 4100000
/-! Sk16: comparisons in a row, as values. -/
namespace L2
open PySem PySem.Spec PyProof.Rows
end L2
namespace Sk
open PySem L2 Evl
end Sk
set_option Elab.async false
set_option linter.all false
set_option maxRecDepth 100000
set_option maxHeartbeats 4100000
/-! Sk17: a comprehension in a comprehension; small rules. -/
namespace Sk
open PySem L2 Evl
theorem lookup_rel {env : Env} : ∀ {names : List (Str × NameKind)} {x : Str}, names.lookup x = some .cell ∨ names.lookup x = some .free →
    (names.map fun (n, k) => if (k == NameKind.free && env.scope.kind == .function && env.kindOf n == some .cell) then (n, NameKind.cell) else (n, k)).lookup x = some .cell ∨
    (names.map fun (n, k) => if (k == NameKind.free && env.scope.kind == .function && env.kindOf n == some .cell) then (n, NameKind.cell) else (n, k)).lookup x = some .free
  | [], _, h => by simp at h
  | (n, k) :: r, x, h => by
    have ih := @lookup_rel env r x
    show List.lookup x ((if (k == NameKind.free && env.scope.kind == .function && env.kindOf n == some .cell) = true then (n, NameKind.cell) else (n, k)) :: _) = _ ∨ List.lookup x ((if (k == NameKind.free && env.scope.kind == .function && env.kindOf n == some .cell) = true then (n, NameKind.cell) else (n, k)) :: _) = _
    cases hx : x == n with
    | true =>
      simp only [List.lookup_cons, hx] at h
      by_cases hc : (k == NameKind.free && env.scope.kind == .function && env.kindOf n == some .cell) = true
      · rw [if_pos hc]
        simp [List.lookup_cons, hx]
      · rw [if_neg hc]
        simp only [List.lookup_cons, hx]
        exact h
    | false =>
      simp only [List.lookup_cons, hx] at h
      by_cases hc : (k == NameKind.free && env.scope.kind == .function && env.kindOf n == some .cell) = true
      · rw [if_pos hc]; simp only [List.lookup_cons, hx]; exact ih h
      · rw [if_neg hc]; simp only [List.lookup_cons, hx]; exact ih h
/-- a block in a block: what it takes from outside stands in the outer block -/
theorem blkOk_in {N : List Str} {outer inner : Scope} {env : Env} {own : List (Str × Nat)} (h : BlkOk N outer inner own) : BlkOk N (relabel outer env) inner own :=
  ⟨h.kind, h.uniq, h.ix, fun y hy e => lookup_rel (h.free y hy e), h.own⟩
end Sk
set_option Elab.async false
set_option linter.all false
set_option maxRecDepth 100000
set_option maxHeartbeats 4100000
/-! Sk18: what a promise hands out is new; sorted keys of a dict. -/
namespace Sk
open PySem L2 Evl
section
variable {K : Fg} {B : Bs} {Γ : Gm} {O : List Own} {α β : Type} {ra : RpF α} {rb : Rp β} {pre : α → Prop} {own : α → List Own} {post : α → β → List Own → Prop} {T : List Addr}
theorem sw_mF {x : α} {Φ : β → List Own → Prop} (R : List Own) (hp : pre x) (hO : ∀ w ∈ own x ++ R, w ∈ O) (hn : (O.map (·.a)).Nodup → ((own x ++ R).map (·.a)).Nodup) (h : ∀ y O', post x y O' → (O'.map (·.a)).Nodup → (∀ w ∈ O', w.a ∉ (own x).map (·.a) → w.a ∉ B.M) → Φ y (O' ++ R))
    (hT : ∀ P ∈ T, P ∈ B.T := by first | exact fun _ h => h | (intro _ h; cases h)) : SW K B Γ O (spM K T ra pre own rb post) [] ra x rb Φ := by
  intro σ G H vs W rv Q q
  have W' : Ws K B Γ (own x ++ R) σ G H := W.perm hO hn
  have nd' := W'.nd
  rw [List.map_append] at nd'
  refine ⟨G, x, W.sub, fun P hP => W.tab P (hT P hP), by rw [List.append_nil]; exact rv, hp, fun w hw => ?_, (List.nodup_append.mp nd').1, fun v y O' G' H' s hO' hn' r hpost => ?_⟩
  · obtain ⟨h1, h2, h3, _⟩ := W'.own w (List.mem_append_left _ hw)
    exact ⟨h1, h2, fun z => h3 (hT _ z)⟩
  · have hM : ∀ c ∈ (own x).map (·.a), (c ∈ B.M ∨ B.H0 c = none) ∧ c ∉ B.T := fun c hc => by
      obtain ⟨w, hw, e⟩ := List.mem_map.mp hc
      obtain ⟨_, _, h3, h4⟩ := W'.own w (List.mem_append_left _ hw)
      rw [← e]
      exact ⟨h4.symm, h3⟩
    have s2 := s.tsub hT fun P hP => (hM P hP).2
    refine q y (O' ++ R) v G' H' (h y O' hpost hn' fun w hw hnn => W.notM ((hO' w hw).2.2.2.resolve_right hnn)) ⟨W.st.trans s2 fun c hc => (hM c hc).1, fun P hP => ⟨s2.tab P hP (W.tab P hP).1, ?_⟩, fun g hg => (W.bs g hg).trans s.g, W.env.mono s.g, fun w hw => ?_, ?_, W.mh⟩ s.g r
    · cases e : G' P with
      | none => rfl
      | some o =>
        have z := s.fr P (W.tab P hP).2 (by rw [e]; simp)
        obtain ⟨⟨ps, h1, _⟩, _⟩ := W.tab P hP
        rw [h1] at z
        cases z
    · rcases List.mem_append.mp hw with z | z
      · obtain ⟨h1, h2, h3, h4⟩ := hO' w z
        refine ⟨h1, h2, fun hw' => ?_, ?_⟩
        · by_cases hT' : w.a ∈ T
          · exact h3 hT'
          · rcases h4 with h4 | h4
            · obtain ⟨⟨ps, g1, _⟩, _⟩ := W.tab _ hw'
              rw [g1] at h4
              cases h4
            · exact (hM _ h4).2 hw'
        · rcases h4 with h4 | h4
          · exact .inl (W.free h4)
          · exact (hM _ h4).1.symm
      · obtain ⟨⟨o, h1, h2⟩, h3, h4, h5⟩ := W'.own w (List.mem_append_right _ z)
        have nM : w.a ∉ (own x).map (·.a) := fun c => (List.nodup_append.mp nd').2.2 _ c _ (List.mem_map.mpr ⟨w, z, rfl⟩) rfl
        refine ⟨⟨o, s2.h _ _ h1 h4 nM, w.r.mono s.g h2⟩, ?_, h4, h5⟩
        cases e : G' w.a with
        | none => rfl
        | some u =>
          have z := s.fr _ h3 (by rw [e]; simp)
          rw [h1] at z
          cases z
    · rw [List.map_append]
      refine List.nodup_append.mpr ⟨hn', (List.nodup_append.mp nd').2.1, fun c hc d hd e => ?_⟩
      subst e
      obtain ⟨w, hw, ew⟩ := List.mem_map.mp hc
      obtain ⟨w2, hw2, ew2⟩ := List.mem_map.mp hd
      obtain ⟨_, _, _, h4⟩ := hO' w hw
      obtain ⟨⟨o, h1, _⟩, _⟩ := W'.own w2 (List.mem_append_right _ hw2)
      rw [ew2, ← ew] at h1
      rcases h4 with h4 | h4
      · rw [h1] at h4
        cases h4
      · rw [ew] at h4
        exact (List.nodup_append.mp nd').2.2 c h4 c hd rfl
end
section
variable {K : Fg} {B : Bs} {Γ : Gm} {O : List Own} {α β γ : Type} {ra : RpF α} {rb : Rp β} {pre : α → Prop} {T : List Addr}
theorem sw_gF {x : α} {q : Addr} {δ : Type} {r : Ow δ} {d : δ} {f : Own → List Own} {own : α → Own} {post : α → β → List Own → Prop} {Φ : β → List Own → Prop} [ho : OwnAt O q r d f] (hp : pre x) (h : ∀ y O', post x y O' → ∃ L, O' = L ++ [own x] ∧ ((∀ w ∈ L, w.a ∉ B.M) → Φ y (L ++ O))) (e : own x = ⟨q, r, d⟩ := by rfl)
    (hT : ∀ P ∈ T, P ∈ B.T := by first | exact fun _ h => h | (intro _ h; cases h)) : SW K B Γ O (spM K T ra pre (fun x => [own x]) rb post) [] ra x rb Φ := by
  obtain ⟨j, h1, _⟩ := ho.at_
  have hl : j < O.length := (List.getElem?_eq_some_iff.mp h1).1
  have hg : O[j] = own x := by
    rw [e]
    exact (List.getElem?_eq_some_iff.mp h1).2
  intro σ G H vs W rv Q q'
  have split : O = O.take j ++ own x :: O.drop (j + 1) := by
    rw [← hg]
    exact (List.take_append_drop j O).symm.trans (by rw [List.drop_eq_getElem_cons hl])
  have perm : ([own x] ++ (O.take j ++ O.drop (j + 1))).Perm O := by
    have p1 : (O.take j ++ own x :: O.drop (j + 1)).Perm (own x :: (O.take j ++ O.drop (j + 1))) := List.perm_middle
    exact p1.symm.trans (by rw [← split])
  refine sw_mF (Φ := fun y O' => ∃ L, O' = L ++ [own x] ++ (O.take j ++ O.drop (j + 1)) ∧ Φ y (L ++ O)) (O.take j ++ O.drop (j + 1)) hp (fun v hv => perm.mem_iff.mp hv) (fun z => ((perm.map (·.a)).nodup_iff).mpr z) (fun y O' p pn pf => ?_) hT σ G H vs W rv Q fun z O' u G' H' ⟨L, k1, k2⟩ W' e' r' => q' z (L ++ O) u G' H' k2 ?_ e' r'
  · obtain ⟨L, e1, e2⟩ := h y O' p
    refine ⟨L, by rw [e1], e2 fun w hw => pf w (by rw [e1]; exact List.mem_append_left _ hw) fun z => ?_⟩
    have ez : w.a = (own x).a := by simpa using z
    rw [e1, List.map_append] at pn
    exact (List.nodup_append.mp pn).2.2 w.a (List.mem_map.mpr ⟨w, hw, rfl⟩) (own x).a (by simp) ez
  · subst k1
    have perm2 : (L ++ [own x] ++ (O.take j ++ O.drop (j + 1))).Perm (L ++ O) := by
      rw [List.append_assoc]
      exact perm.append_left L
    exact W'.perm (fun v hv => perm2.mem_iff.mpr hv) fun z => ((perm2.map (·.a)).nodup_iff).mp z
theorem sw_1NF {x : α} {q : Addr} {δ ε : Type} {r : Ow δ} {d : δ} {f : Own → List Own} {own : α → Own} {r' : Ow ε} {post : α → ε → Prop} {Φ : Addr → List Own → Prop} [ho : OwnAt O q r d f] (hp : pre x) (h : ∀ p d', post x d' → p ∉ B.M → Φ p (⟨p, r', d'⟩ :: O)) (e : own x = ⟨q, r, d⟩ := by rfl)
    (hT : ∀ P ∈ T, P ∈ B.T := by first | exact fun _ h => h | (intro _ h; cases h)) : SW K B Γ O (sp1N K T ra pre own r' post) [] ra x rAdr Φ :=
  sw_gF (ho := ho) hp (fun y O' ⟨d', p, e2⟩ => ⟨[⟨y, r', d'⟩], by rw [e2]; rfl, fun hf => h y d' p (hf _ List.mem_cons_self)⟩) e hT
theorem sw_nF {x : α} {δ : Type} {r' : Ow δ} {post : α → δ → Prop} {Φ : Addr → List Own → Prop} (hp : pre x) (h : ∀ q d, post x d → q ∉ B.M → Φ q (⟨q, r', d⟩ :: O)) (hT : ∀ P ∈ T, P ∈ B.T := by first | exact fun _ h => h | (intro _ h; cases h)) : SW K B Γ O (spN K T ra pre r' post) [] ra x rAdr Φ :=
  sw_mF O hp (fun w hw => hw) (fun z => z) (fun q O' ⟨d, p, e⟩ _ hf => by subst e; exact h q d p (hf _ List.mem_cons_self (by simp))) hT
end
section
variable {ι : Type} {F : ι → Cx} {K : Fg} {B : Bs} {Γ : Gm} {O : List Own} {α β : Type} {ra : Rp α} {rb : Rp β}
variable {P : Program} {w : World} {mg : Str → Option Value} {base : Heap} {k : Nat}
theorem all2_str : ∀ ys : List Str, All2 (fun v x => v = V.str x) (ys.map V.str) ys
  | [] => trivial
  | _ :: ys => ⟨rfl, all2_str ys⟩
theorem dic_keys {p : V → β → Prop} : ∀ {kvs : List (Key × V)} {xs : List (Key × β)}, DicR p kvs xs → kvs.map (·.1) = xs.map (·.1)
  | [], [], _ => rfl
  | _ :: _, _ :: _, ⟨a, _, c⟩ => by rw [List.map_cons, List.map_cons, a, dic_keys c]
  | [], _ :: _, z => z.elim
  | _ :: _, [], z => z.elim
/-- sorted(d), the keys texts -/
theorem c_sortedD {x : α} {xs : List (Key × β)} {ks : List Str} [hd : DkR O ra x rb xs] {Φ : List Str → List Own → Prop} (hk : xs.map (·.1) = ks.map Sum.inr) (hl : ks.length < 64) (kk : ∀ ys, ys.Perm ks → PyProof.Rows.sortedS ys = true → Φ ys O)
    (hc : ∀ j, (F j).calm = true := by intro _; rfl) : CW F K B Γ O (.builtin "sorted") (fOne ra) x (rLst rStr) Φ := fun σ G H vs W ⟨v, e, rv⟩ Q q => by
  obtain ⟨c, kvs, h1, h2, h3⟩ := hd.get W rv
  refine ⟨_, fun j => call_sortedD (hc j), c, kvs, ks, by rw [e, h1], .inl h2, by rw [dic_keys h3]; exact hk, hl, fun ys p hp hs hn => ?_⟩
  have s : Stp B.T [] G H (upd G p (.lst (ys.map V.str))) (upd H p (.lst (ys.map V.str))) := Stp.new W.sub hn
  exact q ys O _ _ _ (kk ys hp hs) (W.step s) s.g ⟨p, _, rfl, upd_same, all2_str ys⟩
theorem bt_sorted : bootBuiltins "sorted" = some (.builtin "sorted") := by decide +kernel
end
end Sk
set_option Elab.async false
set_option linter.all false
set_option maxRecDepth 100000
set_option maxHeartbeats 4100000
/-! Sk19: max, min of three; the truth of a list; things that may be None, compared. -/
namespace Sk
open PySem L2 Evl
section
variable {ι : Type} {F : ι → Cx} {K : Fg} {B : Bs} {Γ : Gm} {O : List Own} {α β : Type} {ra : Rp α} {rb : Rp β} {e : Expr}
/-- a tuple or None, compared -/
instance datOptT {f : RpF β} {enc : β → List PyData} {m : Nat} {good : β → Prop} [hf : DatF f enc m good] : Dat (rOpt (rTup f)) (fun x => match x with | none => PyData.none | some y => PyData.tuple (enc y)) (m + 1) (fun x => ∀ y, x = some y → good y) :=
  ⟨fun {K G H v x} e h => by
    cases x with
    | none =>
      rw [show v = V.non from h]
      exact .non
    | some y => exact (datTup (f := f)).dp e h.2, fun {x} h => by
    cases x with
    | none => rfl
    | some y => exact (datTup (f := f)).lay (h y rfl), fun x => by
    cases x with
    | none => exact Nat.zero_le _
    | some y => exact (datTup (f := f)).dep y, fun x y => by
    cases x with
    | none =>
      cases y with
      | none => exact ⟨fun _ => rfl, fun _ => rfl⟩
      | some b => exact ⟨fun h => Bool.noConfusion (show false = true from h), fun h => by cases h⟩
    | some a =>
      cases y with
      | none => exact ⟨fun h => Bool.noConfusion (show false = true from h), fun h => by cases h⟩
      | some b =>
        refine ((datTup (f := f)).eqv a b).trans ?_
        exact ⟨fun h => by rw [h], fun h => Option.some.inj h⟩⟩
end
section
variable {α β γ δ : Type}
instance (priority := high) fsetL {f : RpF α} {r : Rp β} {n : Nat} [h : Len f n] : FSet (fApp f r) n r (fun x y => (x.1, y)) := ⟨fun ⟨ws, v, h1, h2, h3⟩ q => ⟨ws, _, by
  rw [h1, ← h.len h2, List.set_append_right _ _ (Nat.le_refl _), Nat.sub_self]
  rfl, h2, q⟩⟩
instance (priority := low) fsetI {f : RpF α} {r : Rp β} {i : Nat} {r' : Rp γ} {g : α → γ → α} {r2 : Rp δ} {g2 : α → δ} [h : FSet f i r' g] [h' : FAt f i r2 g2] : FSet (fApp f r) i r' (fun x y => (g x.1 y, x.2)) := ⟨fun ⟨ws, v, h1, h2, h3⟩ q => ⟨_, v, by
  obtain ⟨u, h4, _⟩ := h'.get h2
  rw [h1, List.set_append_left _ _ (List.getElem?_eq_some_iff.mp h4).1], h.set h2 q, h3⟩⟩
end
end Sk
set_option Elab.async false
set_option linter.all false
set_option maxRecDepth 100000
set_option maxHeartbeats 4100000
/-! Sk20: t + u of tuples. -/
namespace Sk
open PySem L2 Evl
section
variable {ι : Type} {F : ι → Cx} {K : Fg} {B : Bs} {Γ : Gm} {O : List Own} {α β : Type} {ra : Rp α} {rb : Rp β} {e : Expr}
theorem o_catT {xs ys : List β} {Φ : List β → List Own → Prop} (hx : xs ≠ []) (hy : ys ≠ []) (hz : xs.length + ys.length ≤ sizeLine) (kk : Φ (xs ++ ys) O) (hK : ∀ j, (F j).K = K := by intro _; rfl) : OW F K B Γ O (binaryOp .Add) (rTpv rb) (rTpv rb) xs ys (rTpv rb) Φ := by
  intro σ G H v u W ⟨c, vs, a1, a2, a3⟩ ⟨d, us, b1, b2, b3⟩ Q q
  have n1 : vs ≠ [] := fun e => by
    have := a3.length
    rw [e] at this
    exact hx (List.eq_nil_of_length_eq_zero this.symm)
  have n2 : us ≠ [] := fun e => by
    have := b3.length
    rw [e] at this
    exact hy (List.eq_nil_of_length_eq_zero this.symm)
  refine ⟨rCatT K, fun j => by rw [← hK j]; exact op_catT, c, d, vs, us, a1, b1, ex_t W.sub a2, ex_t W.sub b2, n1, by rw [a3.length, b3.length]; exact hz, fun e => absurd e n2, fun _ p hp => ?_⟩
  have s : Stp B.T [] G H (upd G p (.tup (vs ++ us))) (upd H p (.tup (vs ++ us))) := Stp.new W.sub hp
  exact q _ O _ _ _ kk (W.step s) s.g ⟨p, _, rfl, SqT.of upd_same, (a3.append b3).mono fun _ _ z => rb.mono s.g z⟩
end
end Sk
set_option Elab.async false
set_option linter.all false
set_option maxRecDepth 100000
set_option maxHeartbeats 4100000
/-! Sk21: own exceptions over ValueError whose __init__ begins with super().__init__(e). -/
namespace Sk
open PySem PySem.Spec PyProof.Rows L2 NdefX PySem.W
/-- what the written part says of the __init__ of an own exception -/
structure XIni (mo : Module) (K : PySem.W.Frag) (mg : Str → Option Value) (C : Addr) (qual : Str) (st : Stmt) (f : Addr) (fd : FuncData) : Prop where
  T : OexC K C
  ex : ∃ (oc : Value) (od : Option Addr) (kV doc pm : Value) (an : Option Addr) (cda : Addr) (ct : Value) (osl : Array (Option Value)) (cc : Addr),
    fd = PySem.W.fnX "__init__" qual (defArgs st) (defBody st) (defScope st) [("__class__", cc)] .none kV doc pm an (.ref cda) ct ∧ K.lookup f = some ⟨oc, od, .func fd, osl⟩ ∧ PySem.W.codeIn K (.ref cda) qual = true ∧
    (∃ ccl cdd vs ccs file tf, K.lookup cda = some ⟨ccl, cdd, .fields vs, ccs⟩ ∧ vs[2]? = some (.str file tf) ∧ ((mo.file : Str) == file) = true) ∧ ∃ cl cld csl, K.lookup cc = some ⟨cl, cld, .cell (some (.ref C)), csl⟩
  sub : PySem.W.mroIn K C (.ref C) = some true
  sup : mg "super" = none
  top : (mo.scope.names.lookup ("super" : Str)).isSome = false
  nxt : PySem.W.ks_superIn K C C "__init__" = some (some (.builtin "ValueError.__init__"))
  ve : PySem.W.subIn K (.ref C) (.type "ValueError") = some true
  op : PySem.W.nsIn K cStatics "thirdparty.any" = some none
abbrev nfX (qual : Str) (st : Stmt) (cc cda : Addr) : NF := ⟨"__init__", qual, defArgs st, defBody st, defScope st, [("__class__", cc)], cda⟩
section
variable {X : Cx} {pins : List (Addr × Obj)} {σ : L2.St} {H : Hp} {s : Shared} {a C u : Addr} {A : Around} {E : Value → Shared → Prop}
/-- the built-in __init__, bound to the exception, called -/
theorem winit_ok {us : List Value} {Q : Value → Shared → Prop} (T : OexC X.K C) (I : Inv X pins σ H s) (e : H a = some (exo a C none)) (hu : s.heap.get? u = some (kxs_mw "ValueError.__init__" a)) (hl : us.length ≤ sizeLine) (h : ∀ s', Inv X pins σ H s' → Q .none s') :
    wpAny (model X.prog X.w) A (call (.ref u) us) Q E s := by
  obtain ⟨nm, q, N, bs, bm, sn, sub, ab, col, dd, k0, k1, k2, k3, k5, hC, hbm⟩ := T.cls
  obtain ⟨t1, ho⟩ := exo_at I.hok e
  obtain ⟨hp, g, d, t, os⟩ := s
  have FB := F.excBase_ValueError
  refine wpAny_call (codeAny_of_tree ?_)
  show wpAny _ A.in1 (callAny (.ref u) ⟨us, []⟩) _ _ _
  simp only [callAny]
  refine wpAny_bind (wpAny_load hu ?_)
  simp only [kxs_mw, show (Value.type "method-wrapper" == Value.type "method" || Value.type "method-wrapper" == Value.type "builtin_function_or_method" || Value.type "method-wrapper" == Value.type "method-wrapper") = true by decide, if_true]
  refine KFB.if_so (by decide) ?_
  refine wpAny_bind (check_bound_init FB.toExcCallFacts (I.kIn _ _ hC) ho rfl ?_)
  refine wpAny_bind (wpAny_pure (wpAny_pure ?_))
  refine ⟨plainId_quiet FB.init.plain _, codeAny_builtin FB.initEntry ?_⟩
  refine exc_init_tree (cls := .ref C) (t0 := t1) (dv := none) (c2 := .none) (c3 := .none) (b4 := .bool false) ho hl fun h' k hx _ => ?_
  have J := I.write (t' := t) (x := a) (e := a) (o := exo a C none) (by rw [e]; exact True.intro) (.inl rfl) k ⟨_, hx⟩ (exo_ok hx)
  have eu : upd H a (exo a C none) = H := by
    funext b
    by_cases hb : b = a
    · rw [hb, upd_same, e]
    · rw [upd_ne hb]
  rw [eu] at J
  exact h _ J
end
section
variable {P : Program} {w : World} {K : PySem.W.Frag} {mg : Str → Option Value} {base : Heap} {C : Addr} {qual : Str} {st : Stmt} {f : Addr} {fd : FuncData} {N ps : List Str} {k : Nat} {sp : L2.Sp}
/-- THE RULE for __init__ of an own exception -/
theorem xini_ok {p0 p1 p2 p3 p4 : Pos} {e : Expr} {es : List Expr} {rest : List Stmt} {ar : Arg} {mo : Module} (Fx : XIni mo K mg C qual st f fd) (hP : P.main = mo) (S : NScope N ps ["__class__"] (defScope st)) (hks : (defScope st).names.lookup ("super" : Str) = some .globalImplicit)
    (hp : ((defArgs st).posonlyargs ++ (defArgs st).args).head? = some ar) (har : ps.head? = some ar.arg)
    (hbd : defBody st = .Expr (.Call (.Attribute (.Call (.Name "super" p0) [] [] p1) "__init__" p2) (e :: es) [] p3) p4 :: rest) (len : ∀ vs H Q E, sp vs H Q E → vs.length = ps.length)
    (hbody : ∀ (cc cda : Addr) (A : Around) (outer : List Env) (s : Shared) (H : Hp) (vs : List V) (Q : VK) (E : XK), Room k (A.deeper (envF (nfX qual st cc cda) f s.heap.objs.size)) → sp vs H Q E →
      ∃ a te t, vs.head? = some (.ref a) ∧ PA (ncx CX0 P w K mg base N (nfX qual st cc cda) f A outer s H E) (e :: es) te ∧ PSs (ncx CX0 P w K mg base N (nfX qual st cc cda) f A outer s H E) rest t ∧ H a = some (exo a C none) ∧
        te (startF N vs [some (.ref C)]) H fun vs1 H1 => vs1.length ≤ 1000 ∧ H1 a = some (exo a C none) ∧ t { nx := fun _ H' => Q .non H', rt := Q } (startF N vs [some (.ref C)]) H1)
    (hev : ∀ env, ∃ pl : Sem Bool, eval (.Call (.Attribute (.Call (.Name "super" p0) [] [] p1) "__init__" p2) (e :: es) [] p3) env = (do
      let ov ← attributeBase (.Call (.Name "super" p0) [] [] p1) "__init__" env (eval (.Call (.Name "super" p0) [] [] p1) env)
      standAt p2.atName
      let (f, first) ← holding [ov] (getMethod ov "__init__" pl)
      callWith p3 f first (backTo p3 (starEach (e :: es) env)) []) := by intro env; exact ⟨_, rfl⟩)
    (hst : ∀ env, starEach (e :: es) env = (false, eval e env) :: starEach es env := by intro _; rfl) (hpl : ∀ env, (backTo p3 (starEach es env)).any (·.1) = false := by intro _; rfl)
    (hsw : ∀ env, swapsWith (.Call (.Attribute (.Call (.Name "super" p0) [] [] p1) "__init__" p2) (e :: es) [] p3) none p4.line env = pure false := by intro _; rfl) :
    FnOk P w K mg base CX0 (k + 1) f fd ps sp := by
  obtain ⟨oc, od, kV, doc, pm, an, cda, ct, osl, cc, rfl, lk, hcd, ⟨ccl, cdd, vs0, ccs, file, tf, lcode, hvs, hfile⟩, cl, cld, csl, lcell⟩ := Fx.ex
  refine ⟨len, fun A outer s H args us vs Q E hr e0 hb r hsp => ?_⟩
  have hl := len _ _ _ _ hsp
  have KX : K.In s.heap := e0.mod.kin.keeps fun b o e => (e0.bs b o e).1
  have lim : s.heap.NoLimit := e0.mod.nolimit.keeps fun b o e => (e0.bs b o e).1
  have C0 : CellsAt (nfX qual st cc cda).cl ["__class__"] [some (V.ref C)] s.heap H := by
    have hcell : s.heap.IsCell cc (some (.ref C)) := ⟨_, KX _ _ lcell, rfl⟩
    have one : ∀ {y : Str} {c : Addr}, (nfX qual st cc cda).cl.lookup y = some c → y = "__class__" ∧ c = cc := fun {y c} h => by
      have h : List.lookup y [(("__class__" : Str), cc)] = some c := h
      by_cases e : y = "__class__"
      · subst e
        have : List.lookup ("__class__" : Str) [(("__class__" : Str), cc)] = some cc := by simp [List.lookup]
        rw [this] at h
        cases h
        exact ⟨rfl, rfl⟩
      · have eb : (y == ("__class__" : Str)) = false := by simpa using e
        simp [List.lookup, eb] at h
    refine ⟨rfl, fun y c h => ?_, fun x y c h h' => (one h).1.trans (one h').1.symm, fun i y hi => ?_⟩
    · rw [(one h).2]
      exact ⟨(e0.bs _ _ (e0.mod.kin _ _ lcell)).2, _, hcell⟩
    · cases i with
      | zero =>
        have e : y = "__class__" := by simpa using hi.symm
        subst e
        refine ⟨cc, by simp [List.lookup], fun v hv => ?_⟩
        have ev : V.ref C = v := by simpa using hv
        subst ev
        exact ⟨_, rfl, hcell⟩
      | succ i => simp at hi
  refine codeAny_call_function hr.depth (KX _ _ lk) rfl S.co S.gen rfl (PySem.W.codeRec_of KX hcd) (hb _ _ _ _ ?_)
  refine wpAny_newFunctionEnv S.nocell (fun ⟨n, _⟩ hy => S.par n (List.of_mem_zip hy).1) (fun h₁ hns hsb => ⟨lim.fresh _ hsb, ?_⟩) S.kind
  show codeAny _ _ (.func (defBody st) (envF (nfX qual st cc cda) f s.heap.objs.size)) _ _
  refine ks_codeAny_funcAt ?_
  have kp : ∀ b o, s.heap.get? b = some o → h₁.get? b = some o := fun b o e => hsb.extBut b o (Nat.ne_of_lt (Heap.lt_size e)) (Heap.get?_push_of_some _ e)
  obtain ⟨a, te, t, hva, hpe, hps, hea, hq⟩ := hbody cc cda A outer s H vs Q E (hr.deeper _) hsp
  have I : Inv (ncx CX0 P w K mg base N (nfX qual st cc cda) f A outer s H E) [] (startF N vs [some (.ref C)]) H { s with heap := h₁, toks := s.toks + (ps.zip us).length } := inv_startN S hr.hd e0 hl r C0 hns kp
  have hfrk : (defScope st).names.lookup ("__class__" : Str) = some .free := S.frk _ (by simp)
  have hself : (ps.zip us).reverse.lookup ar.arg = some (.ref a) := by
    cases ps with
    | nil => simp at har
    | cons p0' ps' =>
      cases us with
      | nil =>
        have := r.length
        rw [hl] at this
        simp at this
      | cons u0 us' =>
        have e1 : p0' = ar.arg := by simpa using har
        subst e1
        cases r with
        | @cons v0 _ vs' _ r1 r2 =>
          have e2 : v0 = V.ref a := by simpa using hva
          subst e2
          obtain rfl : u0 = Value.ref a := r1
          have nd : (ar.arg :: ps').Nodup := by
            have q := S.nd.sublist (List.take_sublist ((ar.arg :: ps').length + (["__class__"] : List Str).length) N)
            rw [S.pre] at q
            exact (List.nodup_append.mp q).1
          exact NdefX.zip_look (i := 0) nd rfl rfl
  have hloc : (defScope st).names.lookup ar.arg = some .local := S.par _ (by
    cases ps with
    | nil => simp at har
    | cons p0' ps' =>
      have e1 : p0' = ar.arg := by simpa using har
      subst e1
      exact List.mem_cons_self)
  rw [hbd]
  have hint : interactive (envF (nfX qual st cc cda) f s.heap.objs.size) = false := by
    unfold interactive
    rw [show (envF (nfX qual st cc cda) f s.heap.objs.size).scope.kind = .function from S.kind]
    rfl
  refine ks_wpAt_execs_cons (ks_wpAt_Expr_any ?_ (hi := hint) (hs := hsw _))
  obtain ⟨pl, hpl0⟩ := hev (envF (nfX qual st cc cda) f s.heap.objs.size)
  refine ks_wpAt_MethodCall (pl := pl) ?_ hpl0
  refine ks_wpAt_super_base (env := envF (nfX qual st cc cda) f s.heap.objs.size) hks hfrk (by decide) rfl (kp _ _ (KX _ _ lk)) rfl hp rfl (kp _ _ (KX _ _ lcode)) rfl hvs (by rw [hP]; exact hfile) (by rw [hP]; exact Fx.top) ?_
  obtain ⟨mb, hb1, hb2⟩ := I.mod.blt
  refine ks_loadName_global (env := envF (nfX qual st cc cda) f s.heap.objs.size) S.kind hks (Calls.loadGlobal_builtin (env := envF (nfX qual st cc cda) f s.heap.objs.size) (mg := mg) (mb := mb) (v := .type "super") (I.mod.glob.keeps I.bk) Fx.sup (hb1.keeps I.bk) ((hb2 _ (by decide)).trans (by decide +kernel)) ⟨rfl, ?_⟩)
  refine wpAny_loadName_free (env := envF (nfX qual st cc cda) f s.heap.objs.size) (v := .ref C) S.kind hfrk (c := cc) (by simp [List.lookup]) ⟨_, kp _ _ (KX _ _ lcell), rfl⟩ ?_
  refine wpAny_loadName_local (env := envF (nfX qual st cc cda) f s.heap.objs.size) S.kind hloc hns hself ?_
  obtain ⟨nm, q, Nn, bs, bm, sn, sub, ab, col, dd, k0, k1, k2, k3, k5, hC, hbm⟩ := Fx.T.cls
  obtain ⟨t1, ho⟩ := exo_at I.hok hea
  have KX1 : K.In h₁ := KX.keeps kp
  refine ks_wpAny_isType_cls (KX1 _ _ hC) rfl ⟨rfl, ?_⟩
  refine ks_wpAny_call_super (KX1 _ _ hC) rfl ho rfl (fun c z => by cases z) (looks_mroIn KX1 Fx.sub) (fun h2 hso k2 => ?_)
  have I2 := I.kept (t' := s.toks + (ps.zip us).length) k2
  have KX2 : K.In h2 := KX1.keeps k2
  have IA : InstAt h2 a { cls := .ref C, dict := none, data := .fields #[.ref t1, .none, .none, .none, .bool false, .none] } C none := ⟨k2 _ _ ho, rfl, rfl, trivial⟩
  have hI : Looks (model P w) h2 (isInstance (.ref a) (.type "ValueError")) true := IA.type.andThen (looks_subIn KX2 Fx.ve)
  have hcl : clsIn K C = some { name := nm, bases := bs, mro := .ref C :: bm, ns := Nn, qualname := q, hasDict := true, slotNames := sn, subclasses := sub, abstract := ab, collection := col, hasDel := false } := by unfold clsIn; rw [hC] <;> rfl
  have hnx := Fx.nxt
  unfold ks_superIn at hnx
  rw [hcl] at hnx
  refine kxs_getMethod kxs_ValueError hso (looks_opaque KX2 Fx.op) (l₀ := .ref C :: bm) (fun A Q E s k q => wpAny_bind ((looks_clsIn KX2 hcl) A _ E s k (wpAny_pure q))) rfl KX2 hnx hI (ks_ne KX2 IA hcl) (by decide) ?_
  have k3 : ∀ b o, h2.get? b = some o → (h2.push (kxs_mw "ValueError.__init__" a)).get? b = some o := fun b o e => Heap.get?_push_of_some _ e
  have hmw : (h2.push (kxs_mw "ValueError.__init__" a)).get? h2.objs.size = some (kxs_mw "ValueError.__init__" a) := Heap.get?_push_size _ rfl
  have I3 : Inv (ncx CX0 P w K mg base N (nfX qual st cc cda) f A outer s H E) [] (startF N vs [some (.ref C)]) H ⟨h2.push (kxs_mw "ValueError.__init__" a), s.gens, s.drawn, s.toks + (ps.zip us).length + 1, s.os⟩ := I2.kept k3
  have uf : H h2.objs.size = none := I2.hok.fresh (Nat.le_refl _)
  have I4 : Inv (ncx CX0 P w K mg base N (nfX qual st cc cda) f A outer s H E) [(h2.objs.size, kxs_mw "ValueError.__init__" a)] (startF N vs [some (.ref C)]) H ⟨h2.push (kxs_mw "ValueError.__init__" a), s.gens, s.drawn, s.toks + (ps.zip us).length + 1, s.os⟩ := I3.pins_of fun p hp => by
    rw [List.mem_singleton.mp hp]
    exact ⟨hmw, uf, fun z => by
      have := I2.lt
      rw [show h2.objs.size = (ncx CX0 P w K mg base N (nfX qual st cc cda) f A outer s H E).env.locals from z] at this
      exact absurd this (Nat.lt_irrefl _), I2.nofs (Nat.le_refl _), fun v z => by cases z⟩
  refine kxs_callWith (i := "ValueError.__init__") (x := a) (by rw [hst]; show (false || (backTo p3 (starEach es _)).any (·.1)) = false; rw [hpl]; rfl) ?_
  rw [hst]
  refine Calls.evalArgs_plain ?_
  have hrun := hpe.run p3 [(h2.objs.size, kxs_mw "ValueError.__init__" a)] _ _ H _ I4 hq
  rw [show starEach (e :: es) (ncx CX0 P w K mg base N (nfX qual st cc cda) f A outer s H E).env = _ from hst _] at hrun
  refine wpAny_mono hrun (fun us1 s1 hh => ?_) fun _ _ z => z
  obtain ⟨vs1, H1, J, r1, hl1, ea1, hq1⟩ := hh
  have hu1 : s1.heap.get? h2.objs.size = some (kxs_mw "ValueError.__init__" a) := (J.pin (h2.objs.size, kxs_mw "ValueError.__init__" a) (List.mem_append_right _ List.mem_cons_self)).1
  refine ⟨hu1, ?_⟩
  have hlu : us1.length ≤ sizeLine := by
    rw [← r1.length, sizeLine_eq]
    omega
  refine winit_ok (X := ncx CX0 P w K mg base N (nfX qual st cc cda) f A outer s H E) Fx.T J ea1 hu1 hlu fun s2 J2 => ?_
  refine wpAt_of_wpAny ?_
  refine wpAny_mono (hps.run _ _ _ H1 _ J2 hq1) (fun fl s' hs => ?_) fun e s' hs => hs
  have fin : ∀ {σ' : L2.St} {H' : Hp} {v : V} {u : Value}, Inv (ncx CX0 P w K mg base N (nfX qual st cc cda) f A outer s H E) [(h2.objs.size, kxs_mw "ValueError.__init__" a)] σ' H' s' → L2.RelV v u → Q v H' → L2.CE outer P w H s Q u s' :=
    fun {σ' H' v u} J rv q => ⟨v, H', J.os, J.bare, J.base, J.hok, rv, q⟩
  cases fl with
  | ret u =>
    obtain ⟨v, σ', H', J, rv, q⟩ := hs
    exact fin J rv q
  | next =>
    obtain ⟨σ', H', J, q⟩ := hs
    exact fin (v := V.non) (u := Value.none) J rfl q
  | brk =>
    obtain ⟨_, _, _, q⟩ := hs
    exact False.elim q
  | cont =>
    obtain ⟨_, _, _, q⟩ := hs
    exact False.elim q
end
end Sk
set_option Elab.async false
set_option linter.all false
set_option maxRecDepth 100000
set_option maxHeartbeats 4100000
/-! Sk22: raise, defs that may raise, try. -/
namespace Sk
open PySem L2 Evl
/-! ### messages of texts and ints -/
def MsgOk (v : V) : Prop := (∃ y : Str, v = .str y ∧ (reprText y).length ≤ 100000) ∨ ∃ i : Int, v = .int i ∧ i.natAbs.log2 < 1900
theorem msg_int {i : Int} {k : Nat} (h : Bd k i) (hk : k ≤ 1900) : MsgOk (.int i) := .inr ⟨i, rfl, by
  by_cases z : i.natAbs = 0
  · rw [z]
    decide
  · exact (Nat.log2_lt z).mpr (Nat.lt_of_lt_of_le h.lt (Nat.pow_le_pow_right (by decide) hk))⟩
def pTE : Str ⊕ Nat → TE
  | .inl c => tC (.str c)
  | .inr i => tFmtR (tVar i)
theorem tjs_ok {σ : St} {H : Hp} : ∀ (ps : List (Str ⊕ Nat)) (acc : Str) {Q : Str → Hp → Prop}, (∀ p ∈ ps, match p with | .inl c => c.length ≤ 1000 | .inr i => ∃ v, σ[i]? = some (some v) ∧ MsgOk v) → acc.length + 100001 * ps.length ≤ 10000000 → (∀ out, Q out H) → tJs (ps.map pTE) acc σ H Q
  | [], acc, Q, _, _, h => h acc
  | p :: ps, acc, Q, hp, hl, h => by
    have hr := fun q hq => hp q (List.mem_cons_of_mem _ hq)
    have h0 := hp p List.mem_cons_self
    have sz : 10000000 ≤ sizeLine := by decide
    rw [List.length_cons] at hl
    have step : ∀ y : Str, y.length ≤ 100000 → ∃ y', V.str y = .str y' ∧ (acc ++ y').length ≤ sizeLine ∧ tJs (ps.map pTE) (acc ++ y') σ H Q := fun y hy => by
      refine ⟨y, rfl, ?_, tjs_ok ps (acc ++ y) hr ?_ h⟩
      · rw [Str.length_append]
        omega
      · rw [Str.length_append]
        omega
    cases p with
    | inl c => exact step c (Nat.le_trans h0 (by decide))
    | inr i =>
      obtain ⟨v, hv, ⟨y, ev, hy⟩ | ⟨j, ev, hj⟩⟩ := h0
      · exact ⟨v, hv, .inl ⟨y, ev, by omega, step _ hy⟩⟩
      · refine ⟨v, hv, .inr ⟨j, ev, by omega, step _ ?_⟩⟩
        exact Nat.le_trans (PyProof.Rows.int_text_len_1921 (by omega)) (by decide)
/-- the promise of the __init__ of an own exception with the fields fs -/
def spXI (C : Addr) (fs : List Str) : Sp := fun vs H Q _ => ∃ a ws, vs = .ref a :: ws ∧ ws.length = fs.length ∧ H a = some (exo a C none) ∧ (∀ w ∈ ws, MsgOk w) ∧
  ∀ d, H d = none → d ≠ a → Q .non (upd (upd H d (exd d (fs.zip ws).reverse)) a (exo a C (some d)))
theorem upd_comm {H : Hp} {a b : Addr} {o u : HO} (h : a ≠ b) : upd (upd H a o) b u = upd (upd H b u) a o := by
  funext c
  by_cases ha : c = a
  · subst ha
    rw [upd_ne h, upd_same, upd_same]
  · by_cases hb : c = b
    · subst hb
      rw [upd_same, upd_ne ha, upd_same]
    · rw [upd_ne hb, upd_ne ha, upd_ne ha, upd_ne hb]
theorem upd_twice {H : Hp} {a : Addr} {o u : HO} : upd (upd H a o) a u = upd H a u := by
  funext c
  by_cases ha : c = a
  · subst ha
    rw [upd_same, upd_same]
  · rw [upd_ne ha, upd_ne ha, upd_ne ha]
/-- one more field is stored -/
theorem ost_more {H H2 : Hp} {a d : Addr} {C : Addr} {fs : List (Str × V)} {f : Str} {y : V} (hne : d ≠ a) (e : H2 = upd (upd H d (exd d fs)) a (exo a C (some d))) : upd H2 d (exd d ((f, y) :: fs)) = upd (upd H d (exd d ((f, y) :: fs))) a (exo a C (some d)) := by
  rw [e, upd_comm (Ne.symm hne), upd_twice]
/-! ### an own exception's data -/
structure Xd (pm : Module) (K : Fg) (mg : Str → Option Value) (n : Str) (C : Addr) (qual : Str) (st : Stmt) (fs : List Str) where
  f : Addr
  fd : FuncData
  I : XIni pm K mg C qual st f fd
  m : mg n = some (.ref C)
  iC : PySem.W.findIn K (.ref C) "__init__" = some (some (.ref f))
  tI : PySem.W.typeIn K (.ref f) = some (.type "function")
  b : Binds K fd ("self" :: fs) []
  na : ∀ x ∈ fs, PySem.W.findIn K (.ref C) x = some none
  xm : PySem.W.exmOne K (.ref C) (.ref C) = some true
  xf : XfC K C
/-- what is told by typed things without the heap -/
class Raw {α : Type} (g : RpF α) (f : outParam (α → List V)) : Prop where
  raw : ∀ {K : Fg} {G : Hp} {vs : List V} {x : α}, g.rep K G vs x → vs = f x
class Raw1 {α : Type} (r : Rp α) (f : outParam (α → V)) : Prop where
  raw : ∀ {K : Fg} {G : Hp} {v : V} {x : α}, r.rep K G v x → v = f x
instance raw1S : Raw1 rStr V.str := ⟨fun h => h⟩
instance raw1I : Raw1 rInt V.int := ⟨fun h => h⟩
instance rawOne {α : Type} {r : Rp α} {f : α → V} [h : Raw1 r f] : Raw (fOne r) (fun x => [f x]) := ⟨fun ⟨v, e, q⟩ => by rw [e, h.raw q]⟩
instance rawCons {α β : Type} {r : Rp α} {f : α → V} {g : RpF β} {f' : β → List V} [h : Raw1 r f] [h' : Raw g f'] : Raw (fCons r g) (fun x => f x.1 :: f' x.2) := ⟨fun ⟨v, ws, e, q, q'⟩ => by rw [e, h.raw q, h'.raw q']⟩
/-- an exception leaves: of the class at C, with these fields -/
def XT (K : Fg) (B : Bs) (Γ : Gm) (O : List Own) (C : Addr) (fl : List (Str × V)) (W : WX) : Prop := ∀ d σ G H, Ws K B Γ O σ G H → G d = some (.xd fl) → W (.ref C) (some d) σ H
theorem xt_drop {K : Fg} {B : Bs} {Γ : Gm} {O : List Own} {C : Addr} {fl : List (Str × V)} {W : WX} (h : XT K B Γ [] C fl W) : XT K B Γ O C fl W := fun d σ G H Ww => h d σ G H (Ww.perm (fun _ z => absurd z (by simp)) fun _ => List.nodup_nil)
section
variable {P : Program} {w : World} {K : Fg} {mg : Str → Option Value} {base : Heap} {k : Nat} {B : Bs} {Γ : Gm} {O : List Own}
/-- raise C(e, ..) -/
theorem s_raise {X : Cx} [fam : Fam (Us X) P w K mg base k] {W : WX} {j : Nat} {n qual : Str} {C : Addr} {st : Stmt} {fs : List Str} {α : Type} {g : RpF α} {f : α → List V} [hr : Raw g f] {e : Expr} {es : List Expr} {p pos pos' : Pos} {rest : List Stmt} {D : Ends}
    {pm : Module} (tk : Takes X W) (Dx : Xd pm K mg n C qual st fs) (G1 : FnOk P w K mg base CX0 j Dx.f Dx.fd ("self" :: fs) (spXI C fs))
    (h : DA (Us X) K B Γ O (e :: es) g fun z O1 => ((f z).length = fs.length ∧ fs.length ≤ 100) ∧ (∀ v ∈ f z, MsgOk v) ∧ XT K B Γ O1 C (fs.zip (f z)).reverse W) (hj : j + 1 ≤ k := by decide) (hdb : (n == ("__debug__" : Str)) = false := by decide) (hg : Gl X n := by rfl)
    (he : starEach (e :: es) X.env = (false, eval e X.env) :: starEach es X.env := by rfl) (hpl : (backTo pos (starEach es X.env)).any (·.1) = false := by rfl) :
    DS X K B Γ O (.Raise (some (.Call (.Name n p) (e :: es) [] pos)) none pos' :: rest) D := by
  intro σ G H Ww
  have h1 : X.prog = P := fam.pr ()
  have h2 : X.w = w := fam.wd ()
  have h3 : X.K = K := fam.ka ()
  have h4 : X.mg = mg := fam.mg ()
  have h5 : X.base = base := fam.bs ()
  have G2 : FnOk X.prog X.w X.K X.mg X.base CX0 j Dx.f Dx.fd ("self" :: fs) (spXI C fs) := by
    rw [h1, h2, h3, h4, h5]
    exact G1
  have hK : X.K = K := h3
  refine WSs.cons (ps_raise (fam.cm ()) tk (pmk_oex (CX := CX0) (ta := WA (Us X) (e :: es)) (by rw [hK]; exact Dx.I.T) (by rw [hK]; exact Dx.iC) (by rw [hK]; exact Dx.tI) G2 ((fam.rm ()).mono hj) (by rw [hK]; exact Dx.b) .nil pass0 hg
    (by rw [show X.mg = mg from h4]; exact Dx.m) (WA.pa (F := Us X) ()) hdb he hpl)) ?_
  refine h σ G H Ww _ fun z O' vs G' H' ⟨⟨hl, hl2⟩, hm, hx⟩ W' _ r => ?_
  have ev := hr.raw r
  subst ev
  refine ⟨by omega, fun a ha => ⟨a, f z, by rw [List.append_nil], hl, upd_same, hm, fun d hd hne => ?_⟩⟩
  have hd1 : H' d = none := by
    rw [upd_ne hne] at hd
    exact hd
  refine ⟨rfl, d, _, upd_same, by rw [upd_ne hne, upd_same], hd1, ?_⟩
  have e2 : upd (del (upd (upd (upd H' a (exo a C none)) d (exd d (fs.zip (f z)).reverse)) a (exo a C (some d))) a) d (.xd (fs.zip (f z)).reverse) = upd H' d (.xd (fs.zip (f z)).reverse) := by
    funext c
    by_cases hc : c = d
    · subst hc
      rw [upd_same, upd_same]
    · rw [upd_ne hc, upd_ne hc]
      by_cases hca : c = a
      · subst hca
        rw [del_same, ha]
      · rw [del_ne hca, upd_ne hca, upd_ne hc, upd_ne hca]
  rw [e2]
  exact hx d σ (upd G' d (.xd (fs.zip (f z)).reverse)) _ (W'.step (Stp.new W'.sub hd1)) upd_same
/-! ### promises with exceptions -/
section
variable {α β : Type}
def spX (K : Fg) (T : List Addr) (ra : RpF α) (pre : α → Prop) (own : α → List Own) (r : Rp β) (post : α → β → List Own → Prop) (xpost : α → Addr → List (Str × V) → List Own → Prop) : Sp := fun vs H Q E => ∃ G x, Ex G H ∧ (∀ P ∈ T, Tb H P ∧ G P = none) ∧ ra.rep K G vs x ∧ pre x ∧
  (∀ w ∈ own x, (∃ o, H w.a = some o ∧ w.r.rep K G o w.x) ∧ G w.a = none ∧ w.a ∉ T) ∧ ((own x).map (·.a)).Nodup ∧
  (∀ v y O' G' H', Stp T ((own x).map (·.a)) G H G' H' → (∀ w ∈ O', (∃ o, H' w.a = some o ∧ w.r.rep K G' o w.x) ∧ G' w.a = none ∧ w.a ∉ T ∧ (H w.a = none ∨ w.a ∈ (own x).map (·.a))) → (O'.map (·.a)).Nodup → r.rep K G' v y → post x y O' → Q v H') ∧
  ∀ C fl d O' G' H', Stp T ((own x).map (·.a)) G H G' H' → (∀ w ∈ O', (∃ o, H' w.a = some o ∧ w.r.rep K G' o w.x) ∧ G' w.a = none ∧ w.a ∉ T ∧ (H w.a = none ∨ w.a ∈ (own x).map (·.a))) → (O'.map (·.a)).Nodup → G' d = some (.xd fl) → xpost x C fl O' → E (.ref C) (some d) H'
variable {ra : RpF α} {rb : Rp β} {pre : α → Prop} {own : α → List Own} {post : α → β → List Own → Prop} {xpost : α → Addr → List (Str × V) → List Own → Prop} {T : List Addr}
theorem Ws.after {x : List Own} {R O' : List Own} {σ : St} {G H G' H' : Hp} (W : Ws K B Γ (x ++ R) σ G H) (hT : ∀ P ∈ T, P ∈ B.T) (s : Stp T (x.map (·.a)) G H G' H')
    (hO' : ∀ w ∈ O', (∃ o, H' w.a = some o ∧ w.r.rep K G' o w.x) ∧ G' w.a = none ∧ w.a ∉ T ∧ (H w.a = none ∨ w.a ∈ x.map (·.a))) (hn' : (O'.map (·.a)).Nodup) : Ws K B Γ (O' ++ R) σ G' H' := by
  have nd' := W.nd
  rw [List.map_append] at nd'
  have hM : ∀ c ∈ x.map (·.a), (c ∈ B.M ∨ B.H0 c = none) ∧ c ∉ B.T := fun c hc => by
    obtain ⟨w, hw, e⟩ := List.mem_map.mp hc
    obtain ⟨_, _, h3, h4⟩ := W.own w (List.mem_append_left _ hw)
    rw [← e]
    exact ⟨h4.symm, h3⟩
  have s2 := s.tsub hT fun P hP => (hM P hP).2
  refine ⟨W.st.trans s2 fun c hc => (hM c hc).1, fun P hP => ⟨s2.tab P hP (W.tab P hP).1, ?_⟩, fun g hg => (W.bs g hg).trans s.g, W.env.mono s.g, fun w hw => ?_, ?_, W.mh⟩
  · cases e : G' P with
    | none => rfl
    | some o =>
      have z := s.fr P (W.tab P hP).2 (by rw [e]; simp)
      obtain ⟨⟨ps, h1, _⟩, _⟩ := W.tab P hP
      rw [h1] at z
      cases z
  · rcases List.mem_append.mp hw with z | z
    · obtain ⟨h1, h2, h3, h4⟩ := hO' w z
      refine ⟨h1, h2, fun hw' => ?_, ?_⟩
      · by_cases hT' : w.a ∈ T
        · exact h3 hT'
        · rcases h4 with h4 | h4
          · obtain ⟨⟨ps, g1, _⟩, _⟩ := W.tab _ hw'
            rw [g1] at h4
            cases h4
          · exact (hM _ h4).2 hw'
      · rcases h4 with h4 | h4
        · exact .inl (W.free h4)
        · exact (hM _ h4).1.symm
    · obtain ⟨⟨o, h1, h2⟩, h3, h4, h5⟩ := W.own w (List.mem_append_right _ z)
      have nM : w.a ∉ x.map (·.a) := fun c => (List.nodup_append.mp nd').2.2 _ c _ (List.mem_map.mpr ⟨w, z, rfl⟩) rfl
      refine ⟨⟨o, s2.h _ _ h1 h4 nM, w.r.mono s.g h2⟩, ?_, h4, h5⟩
      cases e : G' w.a with
      | none => rfl
      | some u =>
        have z := s.fr _ h3 (by rw [e]; simp)
        rw [h1] at z
        cases z
  · rw [List.map_append]
    refine List.nodup_append.mpr ⟨hn', (List.nodup_append.mp nd').2.1, fun c hc d hd e => ?_⟩
    subst e
    obtain ⟨w, hw, ew⟩ := List.mem_map.mp hc
    obtain ⟨w2, hw2, ew2⟩ := List.mem_map.mp hd
    obtain ⟨_, _, _, h4⟩ := hO' w hw
    obtain ⟨⟨o, h1, _⟩, _⟩ := W.own w2 (List.mem_append_right _ hw2)
    rw [ew2, ← ew] at h1
    rcases h4 with h4 | h4
    · rw [h1] at h4
      cases h4
    · rw [ew] at h4
      exact (List.nodup_append.mp nd').2.2 c h4 c hd rfl
/-- a promise is asked, what it lets out goes to W -/
def SWX (K : Fg) (B : Bs) (Γ : Gm) (O : List Own) (W : WX) (sp : Sp) (dvs : List V) {α γ : Type} (ra : RpF α) (x : α) (rc : Rp γ) (Φ : γ → List Own → Prop) : Prop :=
  ∀ σ G H vs, Ws K B Γ O σ G H → ra.rep K G vs x → ∀ Q : VK, (∀ z O' u G' H', Φ z O' → Ws K B Γ O' σ G' H' → Ex G G' → rc.rep K G' u z → Q u H') → sp (vs ++ dvs) H Q fun cls d H' => W cls d σ H'
theorem sw_x {W : WX} {x : α} {Φ : β → List Own → Prop} (R : List Own) (hp : pre x) (hO : ∀ w ∈ own x ++ R, w ∈ O) (hn : (O.map (·.a)).Nodup → ((own x ++ R).map (·.a)).Nodup) (h : ∀ y O', post x y O' → Φ y (O' ++ R))
    (hx : ∀ C fl O', xpost x C fl O' → XT K B Γ (O' ++ R) C fl W) (hT : ∀ P ∈ T, P ∈ B.T := by first | exact fun _ h => h | (intro _ h; cases h)) : SWX K B Γ O W (spX K T ra pre own rb post xpost) [] ra x rb Φ := by
  intro σ G H vs Ww rv Q q
  have W' : Ws K B Γ (own x ++ R) σ G H := Ww.perm hO hn
  have nd' := W'.nd
  rw [List.map_append] at nd'
  refine ⟨G, x, Ww.sub, fun P hP => Ww.tab P (hT P hP), by rw [List.append_nil]; exact rv, hp, fun w hw => ?_, (List.nodup_append.mp nd').1, fun v y O' G' H' s hO' hn' r hpost => ?_, fun C fl d O' G' H' s hO' hn' e hpost => ?_⟩
  · obtain ⟨h1, h2, h3, _⟩ := W'.own w (List.mem_append_left _ hw)
    exact ⟨h1, h2, fun z => h3 (hT _ z)⟩
  · exact q y (O' ++ R) v G' H' (h y O' hpost) (W'.after hT s hO' hn') s.g r
  · exact hx C fl O' hpost d σ G' H' (W'.after hT s hO' hn') e
abbrev sp0X (K : Fg) (T : List Addr) (ra : RpF α) (pre : α → Prop) (r : Rp β) (post : α → β → Prop) (xpost : α → Addr → List (Str × V) → Prop) : Sp := spX K T ra pre (fun _ => []) r (fun x y O' => O' = [] ∧ post x y) fun x C fl O' => O' = [] ∧ xpost x C fl
theorem sw_0X {W : WX} {x : α} {post : α → β → Prop} {xpost : α → Addr → List (Str × V) → Prop} {Φ : β → List Own → Prop} (hp : pre x) (h : ∀ y, post x y → Φ y O) (hx : ∀ C fl, xpost x C fl → XT K B Γ O C fl W) (hT : ∀ P ∈ T, P ∈ B.T := by first | exact fun _ h => h | (intro _ h; cases h)) :
    SWX K B Γ O W (sp0X K T ra pre rb post xpost) [] ra x rb Φ :=
  sw_x O hp (fun w hw => hw) (fun z => z) (fun y O' ⟨e, p⟩ => by subst e; exact h y p) (fun C fl O' ⟨e, p⟩ => by subst e; exact hx C fl p) hT
/-- the context of a def's body that may raise -/
abbrev XfE (P : Program) (w : World) (K : Fg) (mg : Str → Option Value) (base : Heap) (N : List Str) (qual : Str) (st : Stmt) (f : Addr) (cdv : Value) (A : Around) (outer : List Env) (s : Shared) (H : Hp) (E : XK) : Cx :=
  cxOf (L2.CX P w) P w K mg base N qual (defScope st) f cdv A outer s H E
/-- THE RULE: a def that may raise keeps its promise -/
theorem fn_x {x qual : Str} {st : Stmt} {f : Addr} {fd : FuncData} {N ps : List Str} {m : Nat} {g : α → Gm} [hl : Len ra m] [ha : Args ra g]
    (F : Fun K x qual st f fd) (S : FnScope N ps (defScope st)) (T : List Addr)
    (h : ∀ (cdv : Value) (A : Around) (outer : List Env) (s : Shared) (G H : Hp) (E : XK) (x : α) (Q : VK), Fam (Us (XfE P w K mg base N qual st f cdv A outer s H E)) P w K mg base k → pre x →
      Takes (XfE P w K mg base N qual st f cdv A outer s H E) (fun cls d _ H' => E cls d H') →
      PassesOwn (model (XfE P w K mg base N qual st f cdv A outer s H E).prog (XfE P w K mg base N qual st f cdv A outer s H E).w) (XfE P w K mg base N qual st f cdv A outer s H E).A (XfE P w K mg base N qual st f cdv A outer s H E).env (XfE P w K mg base N qual st f cdv A outer s H E).xe →
      (∀ {Γ : Gm} {O' : List Own} {y : β}, post x y O' → RT K ⟨T, (own x).map (·.a), G, H, []⟩ Γ O' rb y { nx := fun _ H' => Q .non H', rt := Q }) →
      (∀ {Γ : Gm} {O' : List Own} {C : Addr} {fl : List (Str × V)}, xpost x C fl O' → XT K ⟨T, (own x).map (·.a), G, H, []⟩ Γ O' C fl (fun cls d _ H' => E cls d H')) →
      DS (XfE P w K mg base N qual st f cdv A outer s H E) K ⟨T, (own x).map (·.a), G, H, []⟩ (g x ++ List.replicate (N.length - m) none) (own x) (defBody st) { nx := fun _ H' => Q .non H', rt := Q }) (hm : m = ps.length := by rfl) :
    FnOk P w K mg base (L2.CX P w) (k + 1) f fd ps (spX K T ra pre own rb post xpost) := by
  refine F.okX S (fun vs H Q E ⟨G, x, _, _, r, _⟩ => by rw [hl.len r]; exact hm) fun cdv A outer s H vs Q E hr ⟨G, x, sub, tab, r, hp, ho, hn, q, qx⟩ => ?_
  have fam : Fam (Us (XfE P w K mg base N qual st f cdv A outer s H E)) P w K mg base k := ⟨fun _ => rfl, fun _ => rfl, fun _ => rfl, fun _ => rfl, fun _ => rfl, fun _ => hr, fun _ => rfl, fun _ => S.nd⟩
  have tk : Takes (XfE P w K mg base N qual st f cdv A outer s H E) (fun cls d _ H' => E cls d H') := takes_of rfl rfl rfl rfl
  have hx := h cdv A outer s G H E x Q fam hp tk (passes_of rfl) (fun {Γ O' y} hpost v σ G' H' W rv => q v y O' G' H' W.st (fun w hw => let ⟨a, b, c, d⟩ := W.own w hw; ⟨a, b, c, d⟩) W.nd rv hpost)
    (fun {Γ O' C fl} hpost d σ G' H' W rv => qx C fl d O' G' H' W.st (fun w hw => let ⟨a, b, c, d⟩ := W.own w hw; ⟨a, b, c, d⟩) W.nd rv hpost)
  refine ⟨_, WSs.pss, hx (L2.start N vs) G H ⟨Stp.refl sub, tab, fun _ z => absurd z (by simp), ?_, fun w hw => ?_, hn, fun c hc => ?_⟩⟩
  · have e := ha.env (m := N.length - m) r
    unfold L2.start
    rw [hl.len r]
    exact e
  · obtain ⟨a, b, c⟩ := ho w hw
    exact ⟨a, b, c, .inr (List.mem_map.mpr ⟨w, hw, rfl⟩)⟩
  · obtain ⟨w, hw, e⟩ := List.mem_map.mp hc
    obtain ⟨⟨o, a, _⟩, _⟩ := ho w hw
    show H c ≠ none
    rw [← e, a]
    simp
end
/-- a call of a def that may raise -/
theorem d_callX {ι : Type} {F : ι → Cx} [fam : Fam F P w K mg base k] {W : WX} {j : Nat} {n : Str} {st : Stmt} {ps : List Str} {sp : Sp} {α γ : Type} {g : RpF α} {rc : Rp γ} {Φ : γ → List Own → Prop} {e : Expr} {es : List Expr} {p pos : Pos} (tk : ∀ i, Takes (F i) W) (D : Df K mg n st ps) (G : FnOk P w K mg base (L2.CX P w) j D.f D.fd ps sp)
    (h : DA F K B Γ O (e :: es) g fun x O1 => SWX K B Γ O1 W sp [] g x rc Φ) (hj : j ≤ k := by decide) (hdb : (n == ("__debug__" : Str)) = false := by decide) (hg : ∀ i, Gl (F i) n := by intro _; rfl)
    (he : ∀ i, starEach (e :: es) (F i).env = (false, eval e (F i).env) :: starEach es (F i).env := by intro _; rfl) (hpl : ∀ i, (backTo pos (starEach es (F i).env)).any (·.1) = false := by intro _; rfl) :
    DW F K B Γ O (.Call (.Name n p) (e :: es) [] pos) rc Φ := by
  intro σ G' H Ww Q q
  refine ⟨tCallS sp (fun σ cls d H' => W cls d σ H') (WA F (e :: es)), fun i => ?_, h σ G' H Ww _ fun x O1 vs G1 H1 kk W1 e1 r1 => by
    have := kk σ G1 H1 vs W1 r1 Q fun z O' u G2 H2 k2 W2 e2 r2 => q z O' u G2 H2 k2 W2 (e1.trans e2) r2
    rw [List.append_nil] at this
    exact this⟩
  have h1 := fam.pr i
  have h2 := fam.wd i
  have h3 := fam.ka i
  have h4 := fam.mg i
  have h5 := fam.bs i
  have G2 : FnOk (F i).prog (F i).w (F i).K (F i).mg (F i).base (L2.CX (F i).prog (F i).w) j D.f D.fd ps sp := by rw [h1, h2, h3, h4, h5]; exact G
  have m2 : (F i).mg n = some (.ref D.f) := by rw [h4]; exact D.m
  have k2 : PySem.W.keepIn (F i).K (.ref D.f) = true := by rw [h3]; exact D.F.kp
  have b2 : Binds (F i).K D.fd ps [] := by rw [h3]; exact D.b
  exact pe_callS G2 ((fam.rm i).mono hj) (hg i) m2 k2 b2 (fun σ => passAt (tk i) σ) (WA.pa i) (hdb := hdb) (he := he i) (hpl := hpl i)
/-! ### try -/
abbrev ιT (X : Cx) (W : WX) : Type := { i : List (Addr × Obj) × (Value → Shared → Prop) // Takes (X.tr i.1 i.2) W ∧ PassesOwn (model X.prog X.w) X.A X.env i.2 }
abbrev Ft (X : Cx) (W : WX) : ιT X W → Cx := fun i => X.tr i.1.1 i.1.2
instance famT {X : Cx} {W : WX} [fam : Fam (Us X) P w K mg base k] : Fam (Ft X W) P w K mg base k := ⟨fun _ => fam.pr (), fun _ => fam.wd (), fun _ => fam.ka (), fun _ => fam.mg (), fun _ => fam.bs (), fun _ => fam.rm (), fun _ => fam.cm (), fun _ => fam.nd ()⟩
theorem ft_tk {X : Cx} {W : WX} (i : ιT X W) : Takes (Ft X W i) W := i.2.1
abbrev wNo : WX := fun _ _ _ _ => False
end
end Sk
set_option Elab.async false
set_option linter.all false
set_option maxRecDepth 100000
set_option maxHeartbeats 4100000
/-! Sk23: enumerate(xs), list(range(a, b)), the first two of a tuple. -/
namespace Sk
open PySem L2 Evl
def enm {α : Type} (xs : List α) : List (Int × α) := xs.zipIdx.map fun p => ((p.2 : Int), p.1)
theorem enm_len {α : Type} (xs : List α) : (enm xs).length = xs.length := by
  unfold enm
  rw [List.length_map, List.length_zipIdx]
theorem enm_get {α : Type} {xs : List α} {i : Nat} {z : Int × α} : (enm xs)[i]? = some z ↔ ∃ x, xs[i]? = some x ∧ z = ((i : Int), x) := by
  unfold enm
  rw [List.getElem?_map, List.getElem?_zipIdx]
  cases h : xs[i]? with
  | none => simp
  | some x =>
    simp only [Option.map_some, Option.some.injEq, Nat.zero_add]
    constructor
    · intro e
      exact ⟨x, rfl, e.symm⟩
    · rintro ⟨y, e1, e2⟩
      rw [e2, e1]
section
variable {ι : Type} {F : ι → Cx} {K : Fg} {B : Bs} {Γ : Gm} {O : List Own} {α β γ : Type} {ra : Rp α} {rb : Rp β} {e a b tg : Expr} {n : Str} {p p2 pos : Pos}
variable {P : Program} {w : World} {mg : Str → Option Value} {base : Heap} {k : Nat}
theorem Gives.enum {T : List Addr} {Gb : Hp} {c : Addr} {vs : List V} {xs : List α} (h : SqL K Gb c vs) (r : All2 (ra.rep K Gb) vs xs) : Gives K T Gb (Ite K c) (rTup (fCons rInt (fOne ra))) (enm xs) where
  go := fun j G H hj e1 e2 => by
    rw [enm_len] at hj
    have h1 : j < vs.length := by rw [r.length]; exact hj
    exact ⟨vs, vs[j], ex_l (e1.trans e2) h, List.getElem?_eq_getElem h1⟩
  stop := fun G H e1 e2 => by
    refine ⟨vs, ex_l (e1.trans e2) h, ?_⟩
    rw [enm_len, r.length]
    exact Nat.le_refl _
  yld := fun j G H v H' hj e1 e2 ⟨t, x, h1, h2, h3, h4⟩ => by
    subst h1 h3
    have hx := h4 vs (ex_l (e1.trans e2) h)
    obtain ⟨y, hy, rep⟩ := r.get hx
    have s : Stp T [] G H (upd G t (.tup [.int (j : Nat), x])) (upd H t (.tup [.int (j : Nat), x])) := Stp.new e2 h2
    exact ⟨((j : Int), y), _, enm_get.mpr ⟨y, hy, rfl⟩, s, t, _, rfl, SqT.of upd_same, _, [x], rfl, rfl, x, rfl, ra.mono (e1.trans s.g) rep⟩
theorem w_enum [fam : Fam F P w K mg base k] {elts : List Expr} {kk : Nat} {tpos : Pos} {Φ : List (Int × α) → List Own → Prop} (hm : mg "enumerate" = none) (h : DW F K B Γ O e (rLst ra) fun xs O1 => Φ (enm xs) O1) (hg : ∀ i, Gl (F i) "enumerate" := by intro _; rfl)
    (hs : ∀ i, starEach [e] (F i).env = [(false, eval e (F i).env)] := by intro _; rfl) : DI F K B Γ O (.Tuple elts kk tpos) (.Call (.Name "enumerate" p) [e] [] pos) (rTup (fCons rInt (fOne ra))) Φ := by
  intro σ G H W R q
  have hs2 : ∀ i, starEach [] (F i).env = [] := fun i => rfl
  refine ⟨iEnum K (tCons (WE F e) tNil), fun i => by rw [← fam.ka i]; exact pi_enum (hg i) (by rw [fam.mg i]; exact hm) (pa_cons (WE.pe i) pa_nil (by rw [hs i, hs2 i])) (hs i), ?_⟩
  exact h σ G H W _ fun xs O1 v G1 H1 h1 W1 e1 ⟨c, vs, r1, r2, r3⟩ => ⟨c, vs, by rw [r1], SqL.of (W1.sub _ _ r2), q _ _ O1 G1 H1 h1 (Gives.enum (SqL.of r2) r3) W1 e1⟩
theorem d_listRg2 [fam : Fam F P w K mg base k] {Φ : List Int → List Own → Prop} (hm : mg "list" = none) (hmr : mg "range" = none) (h : DW F K B Γ O a rInt fun i O1 => DW F K B Γ O1 b rInt fun j O2 => RgOk i j ∧ Φ (rgI i 1 (j - i).toNat) O2)
    (hg : ∀ i, Gl (F i) "list" := by intro _; rfl) (hgr : ∀ i, Gl (F i) "range" := by intro _; rfl) (hs : ∀ i, starEach [a, b] (F i).env = (false, eval a (F i).env) :: starEach [b] (F i).env := by intro _; rfl) (hs2 : ∀ i, starEach [b] (F i).env = (false, eval b (F i).env) :: starEach [] (F i).env := by intro _; rfl)
    (hpl : ∀ i, (backTo p2 (starEach [b] (F i).env)).any (·.1) = false := by intro _; rfl) (hs3 : ∀ i, starEach [.Call (.Name "range" p) [a, b] [] p2] (F i).env = (false, eval (.Call (.Name "range" p) [a, b] [] p2) (F i).env) :: starEach [] (F i).env := by intro _; rfl) {p3 : Pos} :
    DW F K B Γ O (.Call (.Name "list" p3) [.Call (.Name "range" p) [a, b] [] p2] [] pos) (rLst rInt) Φ := by
  intro σ G H W Q q
  refine ⟨tLstRg (tRg2 (WE F a) (WE F b)), fun i => pe_listRg (fam.cm i) (hg i) (by rw [fam.mg i]; exact hm) (prg_2 (hgr i) (by rw [fam.mg i]; exact hmr) (WE.pe i) (WE.pe i) (hs i) (hs2 i) (hpl i)) (hs3 i), ?_⟩
  refine h σ G H W _ fun i O1 v G1 H1 h1 W1 e1 r1 => ?_
  refine h1 σ G1 H1 W1 _ fun j O2 u G2 H2 ⟨hok, k2⟩ W2 e2 r2 => ?_
  refine ⟨i, j, r1, r2, hok, fun t ht => ?_⟩
  have s : Stp B.T [] G2 H2 (upd G2 t (.lst (rgV i j))) (upd H2 t (.lst (rgV i j))) := Stp.new W2.sub ht
  refine q _ O2 _ _ _ k2 (W2.step s) ((e1.trans e2).trans s.g) ⟨t, _, rfl, upd_same, ?_⟩
  have : rgV i j = (rgI i 1 (j - i).toNat).map V.int := by
    unfold rgV rgI
    rw [List.map_map]
    refine List.map_congr_left fun x _ => ?_
    show V.int (i + (x : Int)) = V.int (i + (x : Int) * 1)
    rw [Int.mul_one]
  rw [this]
  exact All2.of_int _
/-- the first two of a longer tuple -/
theorem sl_p2 {r1 : Rp α} {r2 : Rp β} {g : RpF γ} {m : Nat} [hl : Len g m] {x : α × β × γ} {Φ : α × β → List Own → Prop} (hm : 0 < m) (kk : Φ (x.1, x.2.1) O) (hK : ∀ j, (F j).K = K := by intro _; rfl) : SLW F K B Γ O (rTup (fCons r1 (fCons r2 g))) x none (some 2) (rTup (fCons r1 (fOne r2))) Φ := by
  intro σ G H v W ⟨c, ws, h1, h2, v1, ws1, e1, q1, v2, ws2, e2, q2, q3⟩ Q q
  subst e1 e2
  have hl2 := hl.len q3
  refine ⟨rSlT K, fun j => by rw [← hK j]; exact sl_tup, c, _, h1, ex_t W.sub h2, ?_, fun p hp => ?_⟩
  · rintro ⟨_, z⟩
    have z : HT.sIx (v1 :: v2 :: ws2).length (v1 :: v2 :: ws2).length (some 2) = (v1 :: v2 :: ws2).length := z
    rw [List.length_cons, List.length_cons, hl2] at z
    unfold HT.sIx at z
    simp at z
    omega
  · have hc : cutV (v1 :: v2 :: ws2) none (some 2) = [v1, v2] := by
      unfold cutV HT.sIx
      simp
    rw [hc]
    have s : Stp B.T [] G H (upd G p (.tup [v1, v2])) (upd H p (.tup [v1, v2])) := Stp.new W.sub hp
    exact q _ O _ _ _ kk (W.step s) s.g ⟨p, _, rfl, SqT.of upd_same, v1, [v2], rfl, r1.mono s.g q1, v2, rfl, r2.mono s.g q2⟩
end
end Sk
set_option Elab.async false
set_option linter.all false
set_option maxRecDepth 100000
set_option maxHeartbeats 4100000
/-! Sk24: a new object of one's own is handed out, or an exception leaves. -/
namespace Sk
open PySem L2 Evl
section
variable {K : Fg} {B : Bs} {Γ : Gm} {O : List Own} {α δ : Type} {ra : RpF α} {pre : α → Prop} {T : List Addr} {r' : Ow δ} {post : α → δ → Prop} {xpost : α → Addr → List (Str × V) → Prop}
abbrev spNX (K : Fg) (T : List Addr) (ra : RpF α) (pre : α → Prop) (r' : Ow δ) (post : α → δ → Prop) (xpost : α → Addr → List (Str × V) → Prop) : Sp := spX K T ra pre (fun _ => []) rAdr (fun x q O' => ∃ d, post x d ∧ O' = [⟨q, r', d⟩]) fun x C fl O' => O' = [] ∧ xpost x C fl
theorem sw_nXF {W : WX} {x : α} {Φ : Addr → List Own → Prop} (hp : pre x) (h : ∀ q d, post x d → q ∉ B.M → Φ q (⟨q, r', d⟩ :: O)) (hx : ∀ C fl, xpost x C fl → XT K B Γ O C fl W) (hT : ∀ P ∈ T, P ∈ B.T := by first | exact fun _ h => h | (intro _ h; cases h)) :
    SWX K B Γ O W (spNX K T ra pre r' post xpost) [] ra x rAdr Φ := by
  intro σ G H vs Ww rv Q q
  refine ⟨G, x, Ww.sub, fun P hP => Ww.tab P (hT P hP), by rw [List.append_nil]; exact rv, hp, fun w hw => absurd hw (by simp), List.nodup_nil, fun v y O' G' H' s hO' hn' r ⟨d, hpost, e⟩ => ?_, fun C fl d O' G' H' s hO' hn' e ⟨e2, hpost⟩ => ?_⟩
  · subst e
    exact q y _ v G' H' (h y d hpost (Ww.notM ((hO' _ List.mem_cons_self).2.2.2.resolve_right (by simp)))) (Ws.after (x := []) (R := O) (O' := [⟨y, r', d⟩]) Ww hT s hO' hn') s.g r
  · subst e2
    exact hx C fl hpost d σ G' H' (Ws.after (x := []) (R := O) (O' := []) Ww hT s hO' hn') e
end
end Sk
set_option Elab.async false
set_option linter.all false
set_option maxRecDepth 100000
set_option maxHeartbeats 4100000
/-! Sk25: enumerate of a tuple. -/
namespace Sk
open PySem L2 Evl PyProof.Rows
/-- the tuple at a, its items in new pairs -/
def IteT (K : PySem.W.Frag) (a : Addr) : It :=
  ⟨fun i H => ∃ (xs : List V) (x : V), SqT K H a xs ∧ xs[i]? = some x,
   fun i H v H' => ∃ T x, v = .ref T ∧ H T = none ∧ H' = upd H T (.tup [.int (i : Nat), x]) ∧ ∀ xs, SqT K H a xs → xs[i]? = some x,
   fun i H => ∃ xs : List V, SqT K H a xs ∧ xs.length = i⟩
theorem en_ne {h : Heap} {e it a : Addr} {c : Int} {old : Value} {items : Array Value} (he : IsEnum h e it c old) (ht : h.IsTuple a items) : e ≠ a := by
  rintro rfl
  obtain ⟨o, q, c1, _⟩ := ht
  rw [show h.get? e = _ from he] at q
  injection q with q
  rw [← q] at c1
  exact absurd (show Value.type "enumerate" = Value.type "tuple" from c1) (by decide)
theorem ti_ne {h : Heap} {it a : Addr} {i : Nat} {items : Array Value} (hi : h.IsTupleIter it a i) (ht : h.IsTuple a items) : a ≠ it := by
  rintro rfl
  obtain ⟨o, q, c1, _⟩ := ht
  obtain ⟨o', q', c1', _⟩ := hi
  rw [q] at q'
  injection q' with q'
  rw [← q', c1] at c1'
  exact absurd c1' (by decide)
theorem turn_enumT {P : Program} {w : World} {K : PySem.W.Frag} {elts : List Expr} {kk : Nat} {tpos : Pos} (a e it : Addr) :
    Turn P w K (.Tuple elts kk tpos) (IteT K a) [e, it] e (fun i h => (∃ old, IsEnum h e it ((i : Nat) : Int) old) ∧ h.IsTupleIter it a i ∧ e ≠ it) where
  mem := List.mem_cons_self ..
  obj := fun i h ⟨⟨old, he⟩, ⟨o, ho, _, hd⟩, _⟩ b hb => by
    rcases List.mem_cons.mp hb with z | hb
    · rw [z]; exact ⟨_, he, fun v q => nomatch q⟩
    · rw [List.mem_singleton.mp hb]
      exact ⟨o, ho, fun v q => by rw [hd] at q; cases q⟩
  keep := fun i h h' ⟨⟨old, he⟩, hi, hne⟩ k => ⟨⟨old, k e (List.mem_cons_self ..) _ he⟩, hi.at fun o q => k it (List.mem_cons_of_mem _ (List.mem_singleton_self _)) o q, hne⟩
  item := by
    intro X e1 e2 e3 hc i pins s σ H E I hf ⟨⟨old, he⟩, hit, hne⟩ ⟨xs, x, hq, hx⟩
    subst e1 e2 e3
    obtain ⟨its, rv, p, hz⟩ := I.tuple hq
    have p : s.heap.IsTuple a its.toArray := p
    obtain ⟨u, hu, ru⟩ := rv.get hx
    have hel : e < s.heap.objs.size := Heap.lt_size he
    have hil : it < s.heap.objs.size := by obtain ⟨_, q, _⟩ := hit; exact Heap.lt_size q
    have hlt : i < its.toArray.size := by
      obtain ⟨z, _⟩ := List.getElem?_eq_some_iff.mp hu
      exact z
    have D := Draws.tuple (prog := X.prog) (w := X.w) (A := X.A.in1) (I.ok.hd hc) it a (ti_ne hit p) its.toArray
    refine wpAny_pyNext_enum_itemD D he ⟨hit, p⟩ hlt hne (fun z => ?_) fun y h' tk hy ho hst hT hsz hk => ?_
    · rcases List.mem_cons.mp z with z | z
      · exact hne z
      · exact en_ne he p (List.mem_singleton.mp z)
    have hyu : y = u := by
      have h1 : its.toArray[i]? = some u := by simpa using hu
      rw [h1] at hy
      cases hy
      rfl
    subst hyu
    refine ⟨_, rfl, wpAny_letOwnedTupleGo_enum (s := { s with heap := h', toks := tk + 1 }) ho fun h'' he' sb => ?_⟩
    have g2 : h''.get? s.heap.objs.size = some { cls := .type "tuple", data := .seq #[.int i tk, y] } := (sb.2 _ (Nat.ne_of_gt hel)).trans hT
    have nw : ObjOk X.prog X.w (upd H s.heap.objs.size (.tup [.int (i : Nat), x])) h'' s.heap.objs.size (.tup [.int (i : Nat), x]) :=
      ⟨show 2 ≤ sizeLine by decide, [.int i tk, y], .cons ⟨_, rfl⟩ (.cons ru .nil), ⟨_, g2, rfl, _, rfl⟩⟩
    have I1 : Inv X pins σ (upd H s.heap.objs.size (.tup [.int (i : Nat), x])) { s with heap := h'', toks := tk + 1 } :=
      I.turnedNew (ch := [e, it]) (fun b ob hb q => (sb.2 b fun z => hb (by rw [z]; exact List.mem_cons_self ..)).trans (hk b ob (fun z => hb (by rw [z]; exact List.mem_cons_self ..)) (fun z => hb (by rw [z]; exact List.mem_cons_of_mem _ (List.mem_singleton_self _))) q)) hf (Nat.le_refl _) nw
    refine ⟨.ref s.heap.objs.size, _, I1, rfl, ⟨_, x, rfl, I.hok.fresh (Nat.le_refl _), rfl, fun ys hy => by rw [I.tuple_inj hy hq]; exact hx⟩, ⟨⟨y, ?_⟩, hst.1.at fun o q => (sb.2 it (Ne.symm hne)).trans q, hne⟩, fun b hb => ?_⟩
    · rw [show ((i + 1 : Nat) : Int) = (i : Int) + 1 by omega]
      exact he'
    · have lt : b < s.heap.objs.size := by
        rcases List.mem_cons.mp hb with z | z
        · rw [z]; exact hel
        · rw [List.mem_singleton.mp z]; exact hil
      exact (upd_ne (Nat.ne_of_lt lt)).trans (hf b hb).1
  done := by
    intro X e1 e2 e3 hc i pins s σ H E I hf ⟨⟨old, he⟩, hit, hne⟩ ⟨xs, hq, hx⟩
    subst e1 e2 e3
    obtain ⟨its, rv, p, hz⟩ := I.tuple hq
    have p : s.heap.IsTuple a its.toArray := p
    obtain ⟨f0, f1, f2, f3, f4, f5⟩ := hf it (List.mem_cons_of_mem _ (List.mem_singleton_self _))
    have hl : its.toArray.size = i := by
      have := rv.length
      rw [List.size_toArray]
      omega
    subst hl
    have D := Draws.tuple (prog := X.prog) (w := X.w) (A := X.A.in1) (I.ok.hd hc) it a (ti_ne hit p) its.toArray
    exact wpAny_pyNext_enum_endD D he ⟨hit, p⟩ fun h' eb => ⟨rfl, I.turned (t' := s.toks) (fun b o hb q => eb b o hb q) f0 f1 f3 f4 f5⟩
  self := fun A i s Q E ⟨⟨_, he⟩, _⟩ h => wpAny_pyIter_enum he h
def iEnumT (K : PySem.W.Frag) (ta : TA) : TI := fun σ H R => ta σ H fun vs H1 => ∃ a xs, vs = [.ref a] ∧ SqT K H1 a xs ∧ R (IteT K a) H1
theorem meets_enumT (v : Value) (o : Obj) (H : Heap → Prop) (B : Begins v o H) :
    Meets (Builtin.«enumerate.__new__» ⟨[.type "enumerate", v], []⟩) (fun _ R s => H s.heap ∧
      R (.ok (.ret (.ref (s.heap.push o).objs.size))) { s with heap := (s.heap.push o).push { cls := .type "enumerate", data := .fields #[.none, .bool false, .ref s.heap.objs.size, rawInt 0, .none, .none] } }) :=
  .of_wp fun prog w A R ⟨hp, g, d, tk, os⟩ ⟨h1, h⟩ => by
    have hsub := sub_enumerate
    have q1 : ∀ {A2 : Around} {E : Value → Shared → Prop} {Q : Value → Shared → Prop}, Q (.ref hp.objs.size) ⟨hp.push o, g, d, tk, os⟩ → wpAny (model prog w) A2 (pyIter v) Q E ⟨hp, g, d, tk, os⟩ :=
      fun q => B.iter prog w _ _ ⟨hp, g, d, tk, os⟩ _ h1 q
    wp_walk using q1
    refine wpAny_stack_any fun st => wpAny_pure ?_
    split
    · rename_i c _ _ _ _ _
      cases (c == Value.type "enumerate") <;> (wp_walk using q1; exact ⟨_, rfl, h⟩)
    · wp_walk using q1
      exact ⟨_, rfl, h⟩
theorem call_enumT {prog : Program} {w : World} {A : Around} {E : Value → Shared → Prop} {s : Shared} {a : Addr} {items : Array Value} {Q : Value → Shared → Prop} (hL : s.heap.IsTuple a items)
    (h : ∀ h', IsEnum h' (s.heap.objs.size + 1) s.heap.objs.size 0 .none → h'.IsTupleIter s.heap.objs.size a 0 → (∀ b o, s.heap.get? b = some o → h'.get? b = some o) → h'.objs.size = s.heap.objs.size + 2 → Q (.ref (s.heap.objs.size + 1)) { s with heap := h' }) :
    wpAny (model prog w) A (call (.type "enumerate") [.ref a]) Q E s := by
  refine callType_new F.called_enumerate (by decide) (F.typeCall_enumerate_1 _) (F.newCall_enumerate_1 _) (fun obj => F.args_object_init_2 obj _) F.entry_enumerate_new (meets_enumT _ _ _ (begins_tuple a items)) ⟨hL, ?_⟩
  have hz : (s.heap.push { cls := .type "tuple_iterator", data := .fields #[.ref a, .int 0 0] }).objs.size = s.heap.objs.size + 1 := Heap.size_push ..
  show _ ∧ _
  rw [hz]
  have he := Heap.get?_push_size (s.heap.push { cls := .type "tuple_iterator", data := .fields #[.ref a, .int 0 0] }) (o := { cls := .type "enumerate", data := .fields #[.none, .bool false, .ref s.heap.objs.size, rawInt 0, .none, .none] }) rfl
  rw [hz] at he
  exact ⟨⟨_, he, rfl⟩, h _ he ⟨_, Heap.get?_push_of_some _ (Heap.get?_push_size _ rfl), rfl, rfl⟩ (fun b o x => Heap.get?_push_of_some _ (Heap.get?_push_of_some _ x)) (by rw [Heap.size_push, hz])⟩
theorem pi_enumT {X : Cx} {e : Expr} {ta : TA} {p pos tpos : Pos} {elts : List Expr} {kk : Nat} (hg : Gl X "enumerate") (hm : X.mg "enumerate" = none) (ha : PA X [e] ta) (hs : starEach [e] X.env = [(false, eval e X.env)]) :
    PI X (.Tuple elts kk tpos) (.Call (.Name "enumerate" p) [e] [] pos) (iEnumT X.K ta) := by
  refine ⟨fun pins s σ H R I h => ?_⟩
  refine PyProof.Rows.Call_ (ld_blt I hg hm boot_enumerate (PyProof.Rows.callWith_type1 (thn (ha.run pos pins s σ H _ I h) fun us s1 ⟨vs, H1, I1, r1, ⟨a, xs, ex, hq, q⟩⟩ => ?_) hs rfl))
  subst ex
  cases r1 with
  | cons r rr =>
    cases rr
    cases r
    obtain ⟨its, rv, p2, hz⟩ := I1.tuple hq
    refine call_enumT (items := its.toArray) p2 fun h' he hit hk hsz => wpAny_pyIter_enum he ?_
    have I2 : Inv X pins σ H1 { s1 with heap := h' } := I1.kept (t' := s1.toks) hk
    refine ⟨s1.heap.objs.size + 1, [s1.heap.objs.size + 1, s1.heap.objs.size], _, _, H1, rfl, I2, turn_enumT a (s1.heap.objs.size + 1) s1.heap.objs.size, ⟨⟨.none, he⟩, hit, Nat.succ_ne_self _⟩, fun b hb => ?_, q⟩
    have hle : s1.heap.objs.size ≤ b := by
      rcases List.mem_cons.mp hb with z | z
      · rw [z]; exact Nat.le_add_right _ _
      · rw [List.mem_singleton.mp z]; exact Nat.le_refl _
    exact I1.fpOk hle (I1.hok.fresh hle)
section
variable {ι : Type} {F : ι → Cx} {K : Fg} {B : Bs} {Γ : Gm} {O : List Own} {α : Type} {ra : Rp α} {e : Expr} {p pos : Pos}
variable {P : Program} {w : World} {mg : Str → Option Value} {base : Heap} {k : Nat}
theorem Gives.enumT {T : List Addr} {Gb : Hp} {c : Addr} {vs : List V} {xs : List α} (h : SqT K Gb c vs) (r : All2 (ra.rep K Gb) vs xs) : Gives K T Gb (IteT K c) (rTup (fCons rInt (fOne ra))) (enm xs) where
  go := fun j G H hj e1 e2 => by
    rw [enm_len] at hj
    have h1 : j < vs.length := by rw [r.length]; exact hj
    exact ⟨vs, vs[j], ex_t (e1.trans e2) h, List.getElem?_eq_getElem h1⟩
  stop := fun G H e1 e2 => by
    refine ⟨vs, ex_t (e1.trans e2) h, ?_⟩
    rw [enm_len, r.length]
  yld := fun j G H v H' hj e1 e2 ⟨t, x, h1, h2, h3, h4⟩ => by
    subst h1 h3
    have hx := h4 vs (ex_t (e1.trans e2) h)
    obtain ⟨y, hy, rep⟩ := r.get hx
    have s : Stp T [] G H (upd G t (.tup [.int (j : Nat), x])) (upd H t (.tup [.int (j : Nat), x])) := Stp.new e2 h2
    exact ⟨((j : Int), y), _, enm_get.mpr ⟨y, hy, rfl⟩, s, t, _, rfl, SqT.of upd_same, _, [x], rfl, rfl, x, rfl, ra.mono (e1.trans s.g) rep⟩
theorem w_enumT [fam : Fam F P w K mg base k] {elts : List Expr} {kk : Nat} {tpos : Pos} {Φ : List (Int × α) → List Own → Prop} (hm : mg "enumerate" = none) (h : DW F K B Γ O e (rTpv ra) fun xs O1 => Φ (enm xs) O1) (hg : ∀ i, Gl (F i) "enumerate" := by intro _; rfl)
    (hs : ∀ i, starEach [e] (F i).env = [(false, eval e (F i).env)] := by intro _; rfl) : DI F K B Γ O (.Tuple elts kk tpos) (.Call (.Name "enumerate" p) [e] [] pos) (rTup (fCons rInt (fOne ra))) Φ := by
  intro σ G H W R q
  have hs2 : ∀ i, starEach [] (F i).env = [] := fun i => rfl
  refine ⟨iEnumT K (tCons (WE F e) tNil), fun i => by rw [← fam.ka i]; exact pi_enumT (hg i) (by rw [fam.mg i]; exact hm) (pa_cons (WE.pe i) pa_nil (by rw [hs i, hs2 i])) (hs i), ?_⟩
  exact h σ G H W _ fun xs O1 v G1 H1 h1 W1 e1 ⟨c, vs, r1, r2, r3⟩ => ⟨c, vs, by rw [r1], ex_t W1.sub r2, q _ _ O1 G1 H1 h1 (Gives.enumT r2 r3) W1 e1⟩
end
/-! ### a list times an int -/
theorem all2_rep {α : Type} {p : V → α → Prop} {vs : List V} {xs : List α} (h : All2 p vs xs) : ∀ n : Nat, All2 p (List.replicate n vs).flatten (List.replicate n xs).flatten
  | 0 => trivial
  | n + 1 => by
    rw [List.replicate_succ, List.replicate_succ, List.flatten_cons, List.flatten_cons]
    exact All2.append h (all2_rep h n)
section
variable {ι : Type} {F : ι → Cx} {K : Fg} {B : Bs} {Γ : Gm} {O : List Own} {α γ : Type} {ra : Rp α} {rc : Rp γ}
theorem o_repO {xs : List γ} {x : α} {n : Int} [h1 : LsH O ra x rc xs] {Φ : Addr → List Own → Prop} (h0 : 0 ≤ n) (hn : n < 2 ^ 62) (hz : xs.length * n.toNat ≤ sizeLine) (kk : ∀ p, p ∉ B.M → Φ p (⟨p, oLst rc, (List.replicate n.toNat xs).flatten⟩ :: O)) : OW F K B Γ O (binaryOp .Mult) ra rInt x n rAdr Φ := by
  intro σ G H v u W rv ru Q q
  obtain ⟨c, vs, a1, a2, a3⟩ := h1.get W rv
  refine ⟨_, fun _ => op_rep, c, n, vs, a1, ru, a2, by omega, by omega, by rw [a3.length]; exact hz, fun p hp => ?_⟩
  exact q p _ _ G _ (kk p (W.notM hp)) (W.newOwn hp (r := oLst rc) (x := (List.replicate n.toNat xs).flatten) ⟨_, rfl, all2_rep a3 _⟩) (Ex.refl _) rfl
end
end Sk
set_option Elab.async false
set_option linter.all false
set_option maxRecDepth 100000
set_option maxHeartbeats 4100000
/-! Sk26: except C as e: return .. e.f .. -/
namespace Sk
open PySem L2 Evl
/-- the exception that a suite holds, its dict at d -/
def rXc (d : Addr) (fl : List (Str × V)) : Rp Addr := ⟨fun _ G v x => v = .ref x ∧ G d = some (.xd fl), fun e h => ⟨h.1, e _ _ h.2⟩⟩
abbrev ιS (cls : Value) (d : Option Addr) : Type := { i : Obj × List (Addr × Obj) // Zc cls d i.1 ∧ ∃ vs, i.1.data = .fields vs }
abbrev Fs (X : Cx) (a : Addr) (cls : Value) (d : Option Addr) : ιS cls d → Cx := fun i => X.suite a ((a, i.1.1) :: i.1.2)
section
variable {P : Program} {w : World} {K : Fg} {mg : Str → Option Value} {base : Heap} {k : Nat} {B : Bs} {Γ : Gm} {O : List Own} {X : Cx}
theorem d_xf {α : Type} {rb : Rp α} {a C d : Addr} {fl : List (Str × V)} {e : Expr} {n : Str} {pos : Pos} {Φ : α → List Own → Prop} (hK : X.K = K) (T : XfC K C) (hno : PySem.W.findIn K (.ref C) n = some none)
    (h : DW (Fs X a (.ref C) (some d)) K B Γ O e (rXc d fl) fun q O1 => q = a ∧ ∃ v y, fl.lookup n = some v ∧ (∀ {K' : Fg} {G : Hp}, rb.rep K' G v y) ∧ Φ y O1)
    (hb : attributeBase e n X.env (eval e X.env) = eval e X.env := by rfl) : DW (Fs X a (.ref C) (some d)) K B Γ O (.Attribute e n pos) rb Φ := by
  intro σ G H W Q q
  subst hK
  refine ⟨tXf a (.ref C) (some d) C n (WE (Fs X a (.ref C) (some d)) e), fun i => pe_xf T hno i.2.1 i.2.2 (WE.pe (F := Fs X a (.ref C) (some d)) i) hb, ?_⟩
  refine h σ G H W _ fun x O1 v G1 H1 ⟨hq, u, y, h1, h2, kk⟩ W1 e1 r1 => ?_
  subst hq
  exact ⟨r1.1, rfl, d, fl, u, rfl, W1.sub _ _ r1.2, h1, q y O1 u G1 H1 kk W1 e1 h2⟩
/-- within try: return e; the clause with a name: return e2 -/
abbrev wAsR (X : Cx) (K : Fg) (c : Value) (i : Nat) (e2 : Expr) (D : Ends) : WX := wAs K c i (fun a cls d => fun D σ H => WE (Fs X a cls d) e2 σ H D.rt) wNo D
theorem xt_as {β : Type} {rb : Rp β} {C : Addr} {fl : List (Str × V)} {D : Ends} {e2 : Expr} {i : Nat} {f : Option Slot → Gm} [hg : SetG Γ i f] (hm : PySem.W.exmOne K (.ref C) (.ref C) = some true)
    (h : ∀ a d, DW (Fs X a (.ref C) (some d)) K B (f (some ⟨rXc d fl, a⟩)) O e2 rb fun y O' => RT K B (f (some ⟨rXc d fl, a⟩)) O' rb y D) : XT K B Γ O C fl (wAsR X K (.ref C) i e2 D) :=
  fun d σ G H W hd => ⟨true, hm, fun _ a ha => h a d (σ.set i (some (.ref a))) G H (by rw [hg.eq]; exact W.set (s := ⟨rXc d fl, a⟩) i ⟨rfl, hd⟩) _ fun y O' v G' H' kk W' _ r => kk v _ G' H' W' r, fun z => Bool.noConfusion z⟩
variable {e e2 : Expr} {n n2 x : Str} {np p1 p2 p3 p4 p5 p6 : Pos} {c : Value} {i : Nat} {α : Type} {ra : Rp α} {D : Ends} {rest : List Stmt}
theorem s_tryAsRet [fam : Fam (Us X) P w K mg base k] (i : Nat) (hs : X.stack = X.env :: X.outer) (hf : X.env.frame = some X.env.locals) (hc : Names X x c)
    (h : DW (Ft X (wAsR X K c i e2 { D with nx := WSs X rest D })) K B Γ O e ra fun y O' => RT K B Γ O' ra y D) (hi : X.N[i]? = some n := by rfl) (hln : X.env.kindOf n = some .local := by rfl) :
    DS X K B Γ O (.Try [.Return (some e) p1] [.ExceptHandler (some (.Name x np)) (some n) [.Return (some e2) p3] p4] [] [] p5 :: rest) D := by
  intro σ G H Ww
  have hK : X.K = K := fam.ka ()
  refine WSs.cons (ps_try_as (i := i) (tb := fun W => fun D σ H => WE (Ft X W) e σ H D.rt) (ts := fun a cls d => fun D σ H => WE (Fs X a cls d) e2 σ H D.rt) (Wout := wNo) hs hf (fam.nd ()) hi hln hc (fun u s' ⟨_, _, _, _, _, _, _, _, _, _, _, _, _, _, _, _, z⟩ => z.elim)
    (fun W pn xe tk po => pss_one (ps_ret (te := WE (Ft X W) e) (WE.pe (F := Ft X W) ⟨(pn, xe), tk, po⟩))) (fun a oe cls d pn hz hff => pss_one (ps_ret (WE.pe (F := Fs X a cls d) ⟨(oe, pn), hz, hff⟩)))) ?_
  rw [hK]
  exact h σ G H Ww _ fun y O' v G' H' kk W' _ r => kk v σ G' H' W' r
end
end Sk
set_option Elab.async false
set_option linter.all false
set_option maxRecDepth 100000
set_option maxHeartbeats 4100000
/-! Sk27: for i, x in enumerate(xs), xs a list of one's own. -/
namespace Sk
open PySem L2 Evl
section
variable {K : Fg} {B : Bs} {Γ : Gm} {O : List Own} {α : Type} {ra : Rp α} {q : Addr} {xs : List α} {σ : St} {G H H' : Hp} {i : Nat} {v : V}
theorem own_goE (m : (⟨q, oLst ra, xs⟩ : Own) ∈ O) (W : Ws K B Γ O σ G H) (hi : i < xs.length) : (Ite K q).go i H := by
  obtain ⟨vs, h1, h3⟩ := own_lst m W
  have hv : i < vs.length := by rw [h3.length]; exact hi
  exact ⟨vs, vs[i], SqL.of h1, List.getElem?_eq_getElem hv⟩
theorem own_stopE (m : (⟨q, oLst ra, xs⟩ : Own) ∈ O) (W : Ws K B Γ O σ G H) : (Ite K q).stop xs.length H := by
  obtain ⟨vs, h1, h3⟩ := own_lst m W
  exact ⟨vs, SqL.of h1, by rw [h3.length]; exact Nat.le_refl _⟩
theorem own_yldE (m : (⟨q, oLst ra, xs⟩ : Own) ∈ O) (W : Ws K B Γ O σ G H) (hi : i < xs.length) (y : (Ite K q).yld i H v H') : ∃ x G', xs[i]? = some x ∧ Stp B.T [] G H G' H' ∧ (rTup (fCons rInt (fOne ra))).rep K G' v ((i : Int), x) := by
  obtain ⟨vs, h1, h3⟩ := own_lst m W
  obtain ⟨t, u, e1, e2, e3, e4⟩ := y
  obtain ⟨x, hx, hr⟩ := h3.get (e4 vs (SqL.of h1))
  subst e1 e3
  have s : Stp B.T [] G H (upd G t (.tup [.int (i : Nat), u])) (upd H t (.tup [.int (i : Nat), u])) := Stp.new W.sub e2
  exact ⟨x, _, hx, s, t, _, rfl, SqT.of upd_same, _, [u], rfl, rfl, u, rfl, ra.mono s.g hr⟩
variable {X : Cx} {D : Ends} {e tg : Expr} {rest body : List Stmt} {p pos tpos ipos : Pos} {elts : List Expr} {kk : Nat}
variable {P : Program} {w : World} {mg : Str → Option Value} {base : Heap} {k : Nat}
theorem s_forE [fam : Fam (Us X) P w K mg base k] {js : List Nat} (hm : mg "enumerate" = none)
    (h : DW (Us X) K B Γ O e rAdr fun q0 O1 => ∃ xs f, OwnAt O1 q0 (oLst ra) xs f ∧ ∃ (δ : Type) (Pv : Nat → δ → Prop) (Γf : δ → Gm) (Of : δ → List Own), (∃ d, Pv 0 d ∧ Wk Γ (Γf d) ∧ O1 = Of d) ∧ (∀ i d, Pv i d → (⟨q0, oLst ra, xs⟩ : Own) ∈ Of d) ∧
      (∀ g i x d, xs[i]? = some x → Pv i d → DG (Us X) K (B.push g) (Γf d) (Of d) (.Tuple elts kk tpos) (rTup (fCons rInt (fOne ra))) ((i : Int), x) js fun Γ' => DS X K (B.push g) Γ' (Of d) body (LpE X K (B.push g) (Pv (i + 1)) Γf Of rest D)) ∧
      (∀ d, Pv xs.length d → DS X K B (Γf d) (Of d) rest D))
    (hp : PassesOwn (model X.prog X.w) X.A X.env X.xe := by first | exact PassesOwn.never | assumption) (hg : Gl X "enumerate" := by rfl) (hs2 : starEach [e] X.env = [(false, eval e X.env)] := by rfl)
    (hs : ∀ x, foldedSetIterable (.Call (.Name "enumerate" p) [e] [] ipos) X.env x = pure x := by intro _; rfl) : DS X K B Γ O (.For (.Tuple elts kk tpos) (.Call (.Name "enumerate" p) [e] [] ipos) body [] pos :: rest) D := by
  intro σ G H W
  have hs3 : starEach [] X.env = [] := rfl
  have hwi : PI X (.Tuple elts kk tpos) (.Call (.Name "enumerate" p) [e] [] ipos) (iEnum K (tCons (WE (Us X) e) tNil)) := by
    have := pi_enum (X := X) (elts := elts) (kk := kk) (tpos := tpos) (p := p) (pos := ipos) hg (by have z := fam.mg (); rw [show X.mg = mg from z]; exact hm) (pa_cons (WE.pe (F := Us X) ()) pa_nil (by rw [hs2, hs3])) hs2
    rw [show X.K = K from fam.ka ()] at this
    exact this
  refine WSs.cons (ps_for hp (fam.cm ()) hwi (WG.pg (F := Us X) ()) (WSs.pss (X := X)) hs) ?_
  refine h σ G H W _ fun q0 O1 v0 G1 H1 ⟨xs, f, hO, δ, Pv, Γf, Of, ⟨d0, p0, w0, o0⟩, hmem, hst, hd⟩ W1 e1 r1 => ?_
  obtain ⟨j, hj, _⟩ := hO.at_
  have m0 := List.mem_of_getElem? hj
  obtain ⟨vs, h1, h3⟩ := own_lst m0 W1
  refine ⟨q0, vs, by rw [show v0 = _ from r1], SqL.of h1, ?_⟩
  refine ⟨fun i m σ H => m = xs.length - i ∧ i ≤ xs.length ∧ LpJ K (B.push G1) (Pv i) Γf Of σ H, ⟨xs.length, by simp, Nat.zero_le _, d0, G1, p0, ?_⟩, ?_⟩
  · rw [← o0]
    exact (W1.wk w0).base
  rintro i m σ2 H2 ⟨rfl, hi, d, G2, pd, W2⟩
  by_cases hlt : i < xs.length
  · refine .inr ⟨own_goE (hmem i d pd) W2 hlt, LpJ K (B.push G1) (Pv (i + 1)) Γf Of, fun σ' H' j => ⟨xs.length - (i + 1), by omega, rfl, hlt, j⟩, fun v H3 y => ?_⟩
    obtain ⟨x, G3, hx, s3, r3⟩ := own_yldE (hmem i d pd) W2 hlt y
    exact hst G1 i x d hx pd σ2 G3 H3 v (W2.step s3) r3 _ fun Γ' σ' q W' _ => q σ' G3 H3 W'
  · obtain rfl : i = xs.length := by omega
    exact .inl ⟨own_stopE (hmem _ d pd) W2, hd d pd σ2 G2 H2 W2.unbase⟩
end
end Sk
set_option Elab.async false
set_option linter.all false
set_option maxRecDepth 100000
set_option maxHeartbeats 4100000
/-! Sk28: the frame of a generator expression. -/
namespace Sk
open PySem L2 Evl PyProof.Rows
/-- the context of a generator expression's frame; s, H: what stood ahead of it -/
abbrev gxX (X : Cx) (A' : Around) (s : Shared) (H : Hp) (ce : Env) (fp : List Addr) : Cx :=
  { X with A := A', s_0 := s, H_0 := H, env := ce, outer := X.stack, stack := ce :: X.stack, ex := fp, fn := fun _ => false, pn := [], xe := fun _ _ => False }
structure GxOk (N : List Str) (sc scope : Scope) (own : List (Str × Nat)) : Prop where
  blk : BlkOk N sc scope own
  co : scope.isCoroutine = false
  cell : ∀ y ∈ scope.names, y.2 ≠ .cell
  dot : scope.names.lookup (".0" : Str) = some NameKind.local
section
variable {X : Cx} {pins : List (Addr × Obj)} {σ : L2.St} {H : Hp} {s : Shared}
theorem gx_cells {cells : List (Str × Addr)} {scope : Scope} (hf : ∀ y ∈ scope.names, y.2 = .free → ∃ c, cells.lookup y.1 = some c) {y : Str} {c : Addr} (e : (cloFrom cells scope.names []).lookup y = some c) : cells.lookup y = some c ∧ (y, NameKind.free) ∈ scope.names := by
  rcases cloFrom_mem (PySem.mem_of_lookup e) with h | ⟨h1, h2⟩
  · cases h
  · obtain ⟨c', hc⟩ := hf _ h1 rfl
    have hc : cells.lookup y = some c' := hc
    rw [hc] at h2
    have h2 : c = c' := h2
    rw [h2]
    exact ⟨hc, h1⟩
theorem gx_start {A' : Around} {scope : Scope} {own : List (Str × Nat)} {fp : List Addr} {code : Value} {h5 : Heap} {gs : GenState} {tk : Nat} {a : Addr} {go : Obj} {mm : Str → Option Value} (I : Inv X pins σ H s) (ok : GxOk X.N X.env.scope scope own) (hN : X.N.Nodup)
    (hfp : ∀ b ∈ fp, FpOk X pins H b ∧ b < s.heap.objs.size) (hA : X.calm = true → A'.handled = none) (hA2 : A'.frames = some (genEnv scope (cloFrom X.env.cells scope.names []) s.heap.objs.size code builtinsNs X.env :: X.stack))
    (hgs : gs.bare = true) (hk : ∀ b o, s.heap.get? b = some o → h5.get? b = some o) (hns : h5.Ns s.heap.objs.size mm) (ha : h5.get? a = some go) (ha2 : s.heap.objs.size < a) (hgo : ∀ v, go.data ≠ .cell v) :
    Inv (gxX X A' s H (genEnv scope (cloFrom X.env.cells scope.names []) s.heap.objs.size code builtinsNs X.env) fp) [(a, go)] (wipe σ (own.map (·.2))) H { s with gens := s.gens.push gs, toks := tk, heap := h5 } := by
  have hf : ∀ y ∈ scope.names, y.2 = .free → ∃ c, X.env.cells.lookup y.1 = some c := fun y hy e => (ok.blk.free y hy e).elim (fun k => I.ok.has _ (.inl k)) (fun k => I.ok.has _ (.inr k))
  generalize hce : genEnv scope (cloFrom X.env.cells scope.names []) s.heap.objs.size code builtinsNs X.env = ce at hA2
  have eL : ce.locals = s.heap.objs.size := by rw [← hce]; rfl
  have eC : ce.cells = cloFrom X.env.cells scope.names [] := by rw [← hce]; rfl
  have eS : ce.scope = scope := by rw [← hce]; rfl
  have cm : ∀ {y c}, ce.cells.lookup y = some c → X.env.cells.lookup y = some c := fun {y c} e => by
    rw [eC] at e
    exact (gx_cells hf e).1
  have nof : ∀ {x : Str}, scope.names.lookup x = some .cell → False := fun {x} h => ok.cell _ (PySem.mem_of_lookup h) rfl
  have okB : (gxX X A' s H ce fp).Ok := by
    refine { mod := I.ok.mod, kind := ?_, glob := ?_, blt := ?_, above := ?_, inj := ?_, has := ?_, cab := ?_, hd := hA, frames := hA2, stk := .inr ⟨rfl, ?_⟩, exf := ?_, bs := I.bs, bsz := Nat.le_trans I.ok.bsz I.sz, noex := ?_, exfs := ?_, funs := I.stack, frf := I.stkFree }
    · show ce.scope.kind = _
      rw [eS]
      exact ok.blk.kind
    · show ce.globals = _
      rw [← hce]
      exact I.ok.glob
    · show ce.builtins = _
      rw [← hce]
      rfl
    · show s.heap.objs.size ≤ ce.locals
      rw [eL]
      exact Nat.le_refl _
    · intro x y c e1 e2
      exact I.ok.inj x y c (cm e1) (cm e2)
    · intro x hx
      show ∃ c, ce.cells.lookup x = some c
      have hx : ce.scope.names.lookup x = some .cell ∨ ce.scope.names.lookup x = some .free := hx
      rw [eS] at hx
      rcases hx with hx | hx
      · exact (nof hx).elim
      · rw [eC]
        exact mem_lookup (cloFrom_has (cells := X.env.cells) (acc := []) (PySem.mem_of_lookup hx))
    · intro x c z _
      exact absurd z Bool.false_ne_true
    · show ce.frame = some ce.locals
      rw [← hce]
      rfl
    · intro b hb
      refine ⟨?_, fun x c e z => ?_⟩
      · show b ≠ ce.locals
        rw [eL]
        exact Nat.ne_of_lt (hfp b hb).2
      · exact (hfp b hb).1.2.2.2.2.1 x c (cm e) z
    · intro b o e hb
      rcases (hfp b hb).1.2.2.2.1 with z | z
      · exact I.ok.noex b o e z
      · exact Nat.lt_irrefl _ (Nat.lt_of_lt_of_le (Heap.lt_size e) (Nat.le_trans I.ok.bsz z))
    · intro b hb z
      rcases List.mem_cons.mp (I.stkSub b z) with q | q
      · exact (hfp b hb).1.2.1 q
      · exact (hfp b hb).1.2.2.1 q
  have hH : ∀ {b : Addr}, s.heap.objs.size ≤ b → H b = none := fun h => I.hok.fresh h
  refine { ok := okB, os := rfl, bare := ?_, base := Un.kept hk, loc := ⟨mm, ?_, fun i y av e1 e2 e3 => ?_⟩, cell := fun y c e => ?_, free := ?_, freeC := fun y c e => I.freeC y c (cm e), pin := fun p hp => ?_, hok := I.hok.kept hk, len := by rw [wipe_length]; exact I.len }
  · intro x hx
    rcases Array.mem_push.mp hx with z | z
    · exact I.bare x z
    · rw [z]
      exact hgs
  · show h5.Ns ce.locals mm
    rw [eL]
    exact hns
  · obtain ⟨e4, e5⟩ := wipe_some e2
    have e1 : X.N[i]? = some y := e1
    have hfr : scope.names.lookup y = some .free := by
      have own : scope.names.lookup y = some .local → False := fun h => by
        rcases ok.blk.own _ (PySem.mem_of_lookup h) (.inl rfl) with q | q
        · obtain ⟨p, hp, hpy⟩ := List.mem_map.mp q
          have q2 := ok.blk.ix p hp
          rw [show p.1 = y from hpy] at q2
          exact e5 (List.mem_map.mpr ⟨p, hp, nodup_ix hN q2 e1⟩)
        · exact q (List.mem_of_getElem? e1)
      have e3 : Vis ce.scope y := e3
      rw [eS] at e3
      rcases e3 with h | h | h
      · exact (own h).elim
      · exact (nof h).elim
      · exact h
    have hfm := PySem.mem_of_lookup hfr
    obtain ⟨m, hn, hl⟩ := I.loc
    have hv : Vis X.env.scope y := (ok.blk.free _ hfm rfl).elim (fun k => .inr (.inl k)) (fun k => .inr (.inr k))
    obtain ⟨u, ru, q⟩ := hl i y av e1 e4 hv
    obtain ⟨c, hc⟩ := mem_lookup (cloFrom_has (cells := X.env.cells) (acc := []) hfm)
    have hc2 := (gx_cells hf hc).1
    refine ⟨u, ru, .inr ⟨.inr (by show ce.scope.names.lookup y = _; rw [eS]; exact hfr), c, by show ce.cells.lookup y = _; rw [eC]; exact hc, ?_⟩⟩
    rcases q with ⟨k, _⟩ | ⟨_, c', e', z⟩
    · have k : X.env.scope.names.lookup y = some .local := k
      rcases ok.blk.free _ hfm rfl with k' | k'
      · rw [show X.env.scope.names.lookup y = _ from k'] at k
        cases k
      · rw [show X.env.scope.names.lookup y = _ from k'] at k
        cases k
    · rw [hc2] at e'
      cases e'
      exact z.keeps hk
  · obtain ⟨v, z⟩ := I.cell y c (cm e)
    exact ⟨v, z.keeps hk⟩
  · show H ce.locals = none
    rw [eL]
    exact hH (Nat.le_refl _)
  · have e : p = (a, go) := by
      rcases List.mem_append.mp hp with z | z
      · cases z
      · exact List.mem_singleton.mp z
    subst e
    refine ⟨ha, hH (Nat.le_of_lt ha2), ?_, fun z => (List.mem_cons.mp (I.stkSub _ z)).elim (fun q => Nat.lt_irrefl _ (by have h1 := I.lt; rw [← q] at h1; exact Nat.lt_trans ha2 h1)) (fun q => I.nofs (Nat.le_of_lt ha2) q), hgo⟩
    show a ≠ ce.locals
    rw [eL]
    exact Nat.ne_of_gt ha2
end
end Sk
set_option Elab.async false
set_option linter.all false
set_option maxRecDepth 100000
set_option maxHeartbeats 4100000
/-! Sk29: a generator expression that sleeps; next; any, all of one. -/
namespace Sk
open PySem L2 Evl PyProof.Rows GenW
abbrev Slp := Shared → Prop
/-- where a generator may sleep; a: its object go -/
structure SlOk (a : Addr) (go : Obj) (S : Slp) : Prop where
  lim : ∀ s, S s → s.heap.NoLimit
  at_ : ∀ s, S s → s.heap.get? a = some go
  bare : ∀ s, S s → AllBare s.gens
  gens : ∀ s G, S s → AllBare G → S { s with gens := G }
def gxY (a : Addr) (go : Obj) (Yd : Nat → V → Slp → Shared → Prop) : Protocol := fun m _ v s kap => ∃ y S, RelV y v ∧ SlOk a go S ∧ AllBare s.gens ∧ Yd m y S s ∧ ∀ s2 : Shared, S s2 → kap (.send .none) s2
def gxR (Dn : Nat → Slp) (m : Nat) (_ s1 : Shared) : Prop := AllBare s1.gens ∧ Dn m s1
theorem Inv.gens {Z : Cx} {pins : List (Addr × Obj)} {σ : L2.St} {H : Hp} {s : Shared} {G : Array GenState} (I : Inv Z pins σ H s) (h : AllBare G) : Inv Z pins σ H { s with gens := G } :=
  { ok := I.ok, os := I.os, bare := h, base := I.base, loc := I.loc, cell := I.cell, free := I.free, freeC := I.freeC, pin := I.pin, hok := I.hok, len := I.len }
section
variable {prog : Program} {w : World} {A : Around} {a : Addr} {gi : Nat} {go : Obj} {Yd : Nat → V → Slp → Shared → Prop} {Dn : Nat → Slp}
def GxLive (prog : Program) (w : World) (A : Around) (a : Addr) (go : Obj) (Yd : Nat → V → Slp → Shared → Prop) (Dn : Nat → Slp) (gi n : Nat) (s : Shared) : Prop :=
  ∃ gs S, s.gens[gi]? = some gs ∧ SlOk a go S ∧ S s ∧ ∀ s2, S s2 → gs.Goes (model prog w) A.in1 (fun m s0 r s1 => r = .ok .next ∧ gxR Dn m s0 s1) (gxY a go Yd) n (.send .none) s2
theorem gx_next {E : Value → Shared → Prop} {n : Nat} {s : Shared} (hh : A.handled = none) (hroom : A.depth < recursionLimit) (hG : ∀ h : Heap, h.get? a = some go → h.IsGen a gi) (hD : ∀ m s G h', Dn m s → AllBare G → (∀ b o, s.heap.get? b = some o → h'.get? b = some o) → Dn m { s with gens := G, heap := h' })
    (hY : ∀ m y S s G, SlOk a go S → Yd m y S s → AllBare G → Yd m y S { s with gens := G }) (hl : GxLive prog w A a go Yd Dn gi n s) :
    wpAny (model prog w) A (pyNext (.ref a)) (fun r s1 => (r = none ∧ Dn n s1) ∨ ∃ v y S, r = some v ∧ RelV y v ∧ Yd (n - 1) y S s1 ∧ (∀ s' : Shared, s'.gens = s1.gens → S s' → 0 < n ∧ GxLive prog w A a go Yd Dn gi (n - 1) s')) E s := by
  obtain ⟨gs, S, hgs, so, hs, goes⟩ := hl
  have hgl : gi < s.gens.size := (Array.getElem?_eq_some_iff.mp hgs).1
  have atR : S (s.setGen gi .running) := so.gens s _ hs (allBare_setGen (so.bare s hs) rfl)
  refine wpAny_gsz (n := gi + 1) hgl (wpAny_pyNext_genexpQ (P := gxR Dn) hh (so.lim s hs) hroom (hG _ (so.at_ s hs)) hgs (goes _ atR) (fun v s1 gs' hb hv hsz => ?_) (fun s1 hp h' hk _ => ?_))
  · obtain ⟨y, S1, r, so1, b1, yd, kap⟩ := hv
    have hsz1 : gi < s1.gens.size := by
      have q : (s1.setGen gi gs').gens.size = s1.gens.size := setGen_size _ _ _
      have z : gi + 1 ≤ (s1.setGen gi gs').gens.size := hsz
      omega
    have bare2 : AllBare (s1.setGen gi gs').gens := allBare_setGen b1 hb
    refine .inr ⟨v, y, S1, rfl, r, hY (n - 1) y S1 s1 _ so1 yd bare2, fun s' eg hS => ?_⟩
    cases n with
    | zero => exact (kap _ hS).elim
    | succ m => exact ⟨Nat.succ_pos m, gs', S1, by rw [eg]; exact setGen_at hsz1, so1, hS, kap⟩
  · obtain ⟨b1, dn⟩ := hp
    exact .inl ⟨rfl, hD n s1 _ h' dn (allBare_setGen b1 rfl) hk⟩
end
end Sk
set_option Elab.async false
set_option linter.all false
set_option maxRecDepth 100000
set_option maxHeartbeats 4100000
/-! Sk30: a generator expression runs (one clause, two clauses). -/
namespace Sk
open PySem L2 Evl PyProof.Rows
abbrev gxOne (elt tg iter : Expr) (scope : Scope) (pos : Pos) : Expr := .GeneratorExp elt [⟨tg, iter, [], 0⟩] scope pos
abbrev gxC (e : Expr) (d : Nat) (it : Addr) (ce : Env) : Code := .compLoop e d (.ref it) .none ce
abbrev gx0 (e : Expr) (d : Nat) (it : Addr) (ce : Env) : Code := .compStart e d (.ref it) .none ce
theorem gx_turn1 (elt tg iter : Expr) (scope : Scope) (pos : Pos) (it acc : Value) (env : Env) : compTurn (gxOne elt tg iter scope pos) 0 it acc env = (do
      standAt iter.pos
      match ← pyNext it with
      | none => pure (.done .next)
      | some v =>
        letOwnedTupleGo tg it v
        assign tg env v
        (do let v ← eval elt env; standAt elt.pos; let _ ← yieldOut env v)
        again (.compLoop (gxOne elt tg iter scope pos) 0 it acc env)) := by rfl
/-- a turn of the iterator is ahead -/
def gxS (Z : Cx) (pn : List (Addr × Obj)) (σw : L2.St) (fp : List Addr) (tn : Nat → Heap → Prop) (C : Nat → Hp → Prop) (i : Nat) : Slp := fun s => ∃ H, Inv Z pn σw H s ∧ tn i s.heap ∧ (∀ b ∈ fp, H b = none) ∧ C i H
section
variable {Z : Cx} {pn : List (Addr × Obj)} {σw : L2.St} {fp : List Addr} {tn : Nat → Heap → Prop} {C : Nat → Hp → Prop} {n : Nat} {Yd : Nat → V → Slp → Shared → Prop} {Dn : Nat → Slp} {J : It} {g : TG} {te : TE} {vs : List Nat} {a : Addr} {go : Obj}
theorem gxS_ok (hpn : (a, go) ∈ Z.pn ++ pn) (i : Nat) : SlOk a go (gxS Z pn σw fp tn C i) where
  lim := fun s ⟨H, I, _⟩ => I.nolimit
  at_ := fun s ⟨H, I, _⟩ => (I.pin _ hpn).1
  bare := fun s ⟨H, I, _⟩ => I.bare
  gens := fun s G ⟨H, I, r⟩ hG => ⟨H, Inv.gens I hG, r⟩
def FpAll (Z : Cx) (pn : List (Addr × Obj)) (fp : List Addr) : Prop := ∀ {σ' : L2.St} {H' : Hp} {s' : Shared}, Inv Z pn σ' H' s' → (∀ b ∈ fp, H' b = none) → ∀ b ∈ fp, FpOk Z pn H' b
/-- a loop over the last clause: fs what runs around it -/
theorem gx_last {A : Around} {e elt tg iter : Expr} {d : Nat} {it : Addr} {fs : List Frame} {YH : Nat → V → Hp → Prop} {fu : Nat → Nat → Prop} (hc : Z.calm = true) (hA : Z.A = A.over (gxC e d it Z.env) fs) (hx : ∀ e s, ¬ Z.xe e s) (hco : Z.env.scope.isCoroutine = false) (hpn : (a, go) ∈ Z.pn ++ pn)
    (hfs : splitAtGen fs = none) (hfg : fs.any Frame.guarded = false)
    (hden : ∃ (Hh : Value → Sem Fin) (gd : Bool → Bool) (lv : List Value → List Value), gd false = false ∧ (model Z.prog Z.w).den (gxC e d it Z.env) = ((do
      standAt iter.pos
      match ← pyNext (.ref it) with
      | none => pure (.done .next)
      | some v =>
        letOwnedTupleGo tg (.ref it) v
        assign tg Z.env v
        (do let v ← eval elt Z.env; standAt elt.pos; let _ ← yieldOut Z.env v)
        again (gxC e d it Z.env) : Sem Fin).wrap .pure Hh gd lv))
    (T : Turn Z.prog Z.w Z.K tg J fp it tn) (pg : PG Z tg g) (pe : PE Z elt te) (hst : FpAll Z pn fp) (hw : ∀ {σ2 : L2.St}, wipe σ2 vs = σw → σw.length = σ2.length)
    (F : Nat → Nat) (step : ∀ i H, C i H → (i = n ∧ J.stop i H) ∨ (i < n ∧ 0 < F i ∧ F (i + 1) + 1 = F i ∧ J.go i H ∧ ∀ x H1, J.yld i H x H1 → g x σw H1 fun σ2 H2 => wipe σ2 vs = σw ∧ te σ2 H2 fun y H3 => YH i y H3))
    (hY : ∀ i y H s, i < n → Inv Z pn σw H s → tn (i + 1) s.heap → (∀ b ∈ fp, H b = none) → YH i y H → Yd (F (i + 1)) y (gxS Z pn σw fp tn C (i + 1)) s)
    (hD : ∀ s0 s H, Inv Z pn σw H s → C n H → (∀ b ∈ fp, H b = none) → Seg (model Z.prog Z.w) A (fun m a r b => r = .ok .next ∧ gxR Dn m a b) (gxY a go Yd) (F n) s0 (gxC e d it Z.env) (.pure (.done .next)) fs s) :
    ∀ (k i : Nat) (s0 s : Shared), n - i = k → gxS Z pn σw fp tn C i s → Seg (model Z.prog Z.w) A (fun m a r b => r = .ok .next ∧ gxR Dn m a b) (gxY a go Yd) (F i) s0 (gxC e d it Z.env) ((model Z.prog Z.w).den (gxC e d it Z.env)) fs s := by
  obtain ⟨Hh, gd, lv, hgd, hden⟩ := hden
  intro k
  induction k with
  | zero =>
    rintro i s0 s hk ⟨H, I, st, nf, c⟩
    rcases step i H c with ⟨e1, stop⟩ | ⟨lt, _⟩
    · subst e1
      have td := T.done Z rfl rfl rfl hc i pn s σw H (fun _ _ => False) I (hst I nf) st stop
      rw [hA] at td
      rw [hden]
      refine seg_bind_wrap (wpAny_standAt (seg_bind_wrap (wpAny_mono td (fun r s1 ⟨er, I1⟩ => ?_) fun _ _ z => z.elim)))
      subst er
      exact hD s0 s1 H I1 c nf
    · omega
  | succ k ih =>
    rintro i s0 s hk ⟨H, I, st, nf, c⟩
    rcases step i H c with ⟨e1, _⟩ | ⟨lt, f0, f1, go, stp⟩
    · omega
    have ti := T.item Z rfl rfl rfl hc i pn s σw H (fun _ _ => False) I (hst I nf) st go
    rw [hA] at ti
    rw [hden]
    refine seg_bind_wrap (wpAny_standAt (seg_bind_wrap (wpAny_mono ti (fun r s1 ⟨u, er, h1⟩ => ?_) fun _ _ z => z.elim)))
    subst er
    refine seg_bind_wrap (wpAny_mono h1 (fun _ s2 ⟨x, H2, I2, r2, y2, st2, n2⟩ => ?_) fun _ _ z => z.elim)
    have I2p := I2.pinned (hst I2 n2) (T.obj _ _ st2)
    have hg := pg.run _ s2 _ H2 x u _ I2p r2 (stp x H2 y2)
    rw [hA] at hg
    refine seg_bind_wrap (wpAny_mono hg (fun _ s3 ⟨σ3, H3, I3, hw3, q3⟩ => ?_) fun _ _ z => (hx _ _ z).elim)
    have hy : ∀ v, yieldOut Z.env v = yieldValue v := fun v => by
      simp only [yieldOut, hco, if_neg Bool.false_ne_true]
    simp only [hy]
    rw [Sem.bind_eq_wrap', Sem.bind_eq_wrap', Sem.wrap_wrap, Sem.wrap_wrap]
    have he := pe.run _ s3 σ3 H3 _ I3 q3
    rw [hA] at he
    refine seg_wrap (wpAny_mono he (fun v s4 ⟨y, H4, I4, r4, q4⟩ => ?_) fun _ _ z => (hx _ _ z).elim)
    have pin : ∀ b ∈ fp, ∀ o, s2.heap.get? b = some o → s4.heap.get? b = some o ∧ H4 b = none := fun b hb o e =>
      let z := I4.pin (b, o) (List.mem_append_right _ (List.mem_append_right _ (mem_pinsAt hb e)))
      ⟨z.1, z.2.1⟩
    have I5 : Inv Z pn σw H4 s4 := (I4.unpinned (pins := pn)).weak (hw hw3) (fun j v e => by
      rw [← hw3] at e
      exact (wipe_some e).1)
    have nf4 : ∀ b ∈ fp, H4 b = none := fun b hb => by
      obtain ⟨o, e, _⟩ := T.obj _ _ st2 b hb
      exact (pin b hb o e).2
    have st4 : tn (i + 1) s4.heap := T.keep _ _ _ st2 fun b hb o e => (pin b hb o e).1
    rw [← f1]
    refine seg_at (seg_yield hfs (by exact hgd) hfg ⟨y, _, r4, gxS_ok hpn (i + 1), I5.bare, hY i y H4 s4 lt I5 st4 nf4 q4, fun s5 h5 => ?_⟩)
    exact seg_again rfl (ih (i + 1) s5 s5 (by omega) h5)
/-- ahead of the loop -/
theorem gx_begin {A : Around} {R : GenEnd} {Y : Protocol} {e : Expr} {d m : Nat} {it : Addr} {fs : List Frame} {ce : Env} {s0 s : Shared} {P : Program} {w : World} (hcl : ((clausesOf e)[d]?).elim false (·.is_async != 0) = false)
    (hden : (model P w).den (gx0 e d it ce) = (compStart e d (.ref it) .none ce).onRaise (leaving ce) ∨ ∃ Hh, (model P w).den (gx0 e d it ce) = (compStart e d (.ref it) .none ce).onRaise Hh)
    (T : ∀ (A' : Around) (Q : Value → Shared → Prop) (E : Value → Shared → Prop), Q (.ref it) s → wpAny (model P w) A' (pyIter (.ref it)) Q E s) (h : Seg (model P w) A R Y m s0 (gxC e d it ce) ((model P w).den (gxC e d it ce)) fs s) :
    Seg (model P w) A R Y m s0 (gx0 e d it ce) ((model P w).den (gx0 e d it ce)) fs s := by
  have key : ∀ Hh, Seg (model P w) A R Y m s0 (gx0 e d it ce) ((compStart e d (.ref it) .none ce).onRaise Hh) fs s := fun Hh => by
    unfold compStart
    rw [Sem.onRaise_eq_wrap, hcl]
    refine seg_bind_wrap (m := ask) (wpAny_askSetting ?_)
    split
    · exact seg_again rfl h
    · refine seg_bind_wrap (wpAny_rule ?_)
      split
      · exact seg_bind_wrap (wpAny_standAt (seg_bind_wrap (T _ _ _ (seg_again rfl h))))
      · exact seg_bind_wrap (T _ _ _ (seg_again rfl h))
  rcases hden with z | ⟨Hh, z⟩
  · rw [z]
    exact key _
  · rw [z]
    exact key _
end
end Sk
set_option Elab.async false
set_option linter.all false
set_option maxRecDepth 100000
set_option maxHeartbeats 4100000
/-! Sk31: two clauses. -/
namespace Sk
open PySem L2 Evl PyProof.Rows
section
variable {Z : Cx} {pn : List (Addr × Obj)} {σw : L2.St} {fp : List Addr} {tn : Nat → Heap → Prop} {n : Nat} {Yd : Nat → V → Slp → Shared → Prop} {Dn : Nat → Slp} {J : It} {g g2 : TG} {te : TE} {vs vs2 : List Nat} {a : Addr} {go : Obj} {wi2 : TI}
theorem gx_seg1 {A : Around} {elt tg iter : Expr} {scope : Scope} {pos : Pos} {it : Addr} {C : Nat → Hp → Prop} {YH : Nat → V → Hp → Prop} (hc : Z.calm = true) (hA : Z.A = A.over (gxC (gxOne elt tg iter scope pos) 0 it Z.env) []) (hx : ∀ e s, ¬ Z.xe e s) (hco : Z.env.scope.isCoroutine = false) (hpn : (a, go) ∈ Z.pn ++ pn)
    (T : Turn Z.prog Z.w Z.K tg J fp it tn) (pg : PG Z tg g) (pe : PE Z elt te) (hst : FpAll Z pn fp) (hw : ∀ {σ2 : L2.St}, wipe σ2 vs = σw → σw.length = σ2.length)
    (step : ∀ i H, C i H → (i = n ∧ J.stop i H) ∨ (i < n ∧ J.go i H ∧ ∀ x H1, J.yld i H x H1 → g x σw H1 fun σ2 H2 => wipe σ2 vs = σw ∧ te σ2 H2 fun y H3 => YH i y H3))
    (hY : ∀ i y H s, i < n → Inv Z pn σw H s → tn (i + 1) s.heap → (∀ b ∈ fp, H b = none) → YH i y H → Yd (n + 1 - (i + 1)) y (gxS Z pn σw fp tn C (i + 1)) s) (hD : ∀ s H, Inv Z pn σw H s → C n H → Dn (n + 1 - n) s) (s0 s : Shared) (h : gxS Z pn σw fp tn C 0 s) :
    Seg (model Z.prog Z.w) A (fun m a r b => r = .ok .next ∧ gxR Dn m a b) (gxY a go Yd) (n + 1) s0 (gx0 (gxOne elt tg iter scope pos) 0 it Z.env) ((model Z.prog Z.w).den (gx0 (gxOne elt tg iter scope pos) 0 it Z.env)) [] s := by
  have lp := gx_last (d := 0) (fs := []) (C := C) (n := n) (Yd := Yd) (Dn := Dn) (YH := YH) (fu := fun _ _ => True) (vs := vs) hc hA hx hco hpn rfl rfl ⟨_, id, id, rfl, by
    show (compTurn (gxOne elt tg iter scope pos) 0 (.ref it) .none Z.env).onRaise (leaving Z.env) = _
    rw [gx_turn1, Sem.onRaise_eq_wrap]⟩ T pg pe hst hw (fun i => n + 1 - i) (fun i H c => (step i H c).imp (fun z => z) fun ⟨lt, z⟩ => ⟨lt, by omega, by omega, z⟩) hY (fun s0 s H I c _ => by
      exact seg_end (.ok .next) ⟨rfl, I.bare, hD s H I c⟩) (n - 0) 0 s0 s rfl h
  obtain ⟨H, I, st, _⟩ := h
  exact gx_begin rfl (.inl rfl) (fun A' Q E q => T.self A' 0 s Q E st q) lp
end
end Sk
set_option Elab.async false
set_option linter.all false
set_option maxRecDepth 100000
set_option maxHeartbeats 4100000
/-! Sk32: a generator expression is made. -/
namespace Sk
open PySem L2 Evl PyProof.Rows GenW
open GxR (TabB TabG Tabbed inv_tab)
section
variable {X : Cx} {pins : List (Addr × Obj)} {σ : L2.St} {H : Hp} {s : Shared}
abbrev gxEnv (X : Cx) (scope : Scope) (s4 : Shared) (code : Value) : Env := genEnv scope (cloFrom X.env.cells scope.names []) s4.heap.objs.size code builtinsNs X.env
abbrev gxA (X : Cx) (e : Expr) (it : Addr) (ce : Env) : Around := X.A.in1.in1.over (gxC e 0 it ce) []
/-- the generator at a is made -/
structure GxMade (X : Cx) (pins : List (Addr × Obj)) (σ : L2.St) (own : List (Str × Nat)) (e tg : Expr) (scope : Scope) (J : It) (H2 : Hp) (s5 : Shared) where
  s4 : Shared
  code : Value
  fp : List Addr
  tn : Nat → Heap → Prop
  it : Addr
  a : Addr
  gi : Nat
  go : Obj
  I4 : Inv X pins σ H2 s4
  T : Turn X.prog X.w X.K tg J fp it tn
  st : tn 0 s5.heap
  nf : ∀ b ∈ fp, FpOk X pins H2 b ∧ b < s4.heap.objs.size
  ga : s4.heap.objs.size < a
  gen : ∀ h : Heap, h.get? a = some go → h.IsGen a gi
  gs : s5.gens[gi]? = some (.fresh (gx0 e 0 it (gxEnv X scope s4 code)))
  I5 : Inv (gxX X (gxA X e it (gxEnv X scope s4 code)) s4 H2 (gxEnv X scope s4 code) fp) [(a, go)] (wipe σ (own.map (·.2))) H2 s5
theorem gx_eval (elt tg iter : Expr) (cs : List Comprehension) (scope : Scope) (pos : Pos) (env : Env) (hco : scope.isCoroutine = false) : eval (.GeneratorExp elt (⟨tg, iter, [], 0⟩ :: cs) scope pos) env = (do
      let xv ← eval iter env
      standAt iter.pos
      let xw ← genFold iter env xv
      let itv ← holding [xw] (pyIter xw)
      enterFrame
      let cls ← closureFor scope env
      let cod ← genexprCode env pos (env.qual ++ "<genexpr>") scope
      let blt ← builtinsFor env.globals env.builtins
      let ce ← newFunctionEnv scope env.globals cls [(".0", itv)] (env.qual ++ "<genexpr>.") none cod none blt
      newGenerator (.compStart (.GeneratorExp elt (⟨tg, iter, [], 0⟩ :: cs) scope pos) 0 itv .none ce) "<genexpr>" (env.qual ++ "<genexpr>")) := by
  rw [arm_eval_GeneratorExp]
  simp only [hco, if_neg Bool.false_ne_true]
  cases iter <;> rfl
theorem dot_bind (it : Value) : (fun y : Str => ([((".0" : Str), it)] : List (Str × Value)).reverse.lookup y) = fun y : Str => if y = (".0" : Str) then some it else none := funext fun y => by
  by_cases hy : y = ".0"
  · subst hy
    simp
  · have z : (y == (".0" : Str)) = false := by simpa using hy
    simp [List.lookup, z, hy]
/-- made: its first iterator by hi -/
theorem gx_new {M : Model} {A : Around} {E : Value → Shared → Prop} {s : Shared} {env : Env} {elt tg iter : Expr} {cs : List Comprehension} {scope : Scope} {cl : List (Str × Addr)} {pos : Pos} {Q : Value → Shared → Prop} (hco : scope.isCoroutine = false) (hclos : closureFor scope env = pure cl) (hcell : ∀ y ∈ scope.names, y.2 ≠ .cell) (h0 : scope.names.lookup (".0" : Str) = some NameKind.local) (hkind : scope.kind = .function) (hroom : A.depth < recursionLimit)
    (h : wpAny M A (eval iter env) (fun xv s1 => wpAny M A (pyIter xv) (fun it s2 => s2.heap.NoLimit ∧ wpAny M A (genexprCode env pos (env.qual ++ "<genexpr>") scope) (fun code s3 => wpAny M A (builtinsFor env.globals env.builtins) (fun bi s4 =>
      ∀ h', h'.Ns s4.heap.objs.size (fun y => if y = ".0" then some it else none) → Heap.SameBut s4.heap.objs.size (s4.heap.push { cls := .type "frame", data := .dict #[] }) h' →
        Q (.ref h'.objs.size) { s4 with gens := s4.gens.push (.fresh (.compStart (.GeneratorExp elt (⟨tg, iter, [], 0⟩ :: cs) scope pos) 0 it .none (genEnv scope cl s4.heap.objs.size code bi env))), toks := s4.toks + 1 + 1 + 1, heap := h'.push { cls := .type "generator", data := .fields #[.int s4.gens.size 0, .str "<genexpr>" (s4.toks + 1), .str (env.qual ++ "<genexpr>") (s4.toks + 1 + 1)] } }) E s3) E s2) E s1) E s)
    (hs : ∀ x, genFold iter env x = pure x) : wpAny M A (eval (.GeneratorExp elt (⟨tg, iter, [], 0⟩ :: cs) scope pos) env) Q E s := by
  rw [gx_eval _ _ _ _ _ _ _ hco, hclos]
  refine wpAny_bind (wpAny_mono h (fun xv s1 h1 => wpAny_bind (wpAny_standAt (wpAny_bind (wpAny_of_eq (hs xv) (wpAny_bind (wpAny_holding (wpAny_mono h1 (fun it s2 h2 => ?_) fun _ _ e => e))))))) fun _ _ e => e)
  refine wpAny_bind (wpAny_enterFrame h2.1 hroom (wpAny_bind (wpAny_pure (wpAny_bind (wpAny_mono h2.2 (fun code s3 h3 => wpAny_bind (wpAny_mono h3 (fun bi s4 h4 => ?_) fun _ _ e => e)) fun _ _ e => e)))))
  have hb : ∀ y ∈ ([((".0" : Str), it)] : List (Str × Value)), scope.names.lookup y.1 = some NameKind.local := fun y hy => by
    rw [List.mem_singleton.mp hy]
    exact h0
  refine wpAny_bind (wpAny_newFunctionEnv hcell hb (fun h' hn hs' => ?_) hkind)
  rw [dot_bind] at hn
  simp only [newGenerator, newFields]
  exact wpAny_bind (wpAny_newGen (wpAny_bind (wpAny_mkText (wpAny_bind (wpAny_mkText (wpAny_newObj_type (h4 h' hn hs') (by size_fits)))))))
theorem gx_make {c P : Addr} {elt tg iter : Expr} {cs : List Comprehension} {gpos : Pos} {scope : Scope} {own : List (Str × Nat)} {wi : TI} {k : Nat} {Q' : Value → Shared → Prop} {R : It → Hp → Prop}
    (hr : Room k X.A) (TB : TabB X.base X.mg c P) (hcode : X.env.code = .ref c) (ok : GxOk X.N X.env.scope scope own) (hN : X.N.Nodup) (hc : X.calm = true) (hi : PI X tg iter wi) (hs : ∀ v, genFold iter X.env v = pure v) (I : Inv X pins σ H s)
    (h : wi σ H fun J H1 => TabG H1 P ∧ ∀ H2, Tabbed P H1 H2 → R J H2)
    (hQ : ∀ (J : It) (H2 : Hp) (s5 : Shared) (M : GxMade X pins σ own (.GeneratorExp elt (⟨tg, iter, [], 0⟩ :: cs) scope gpos) tg scope J H2 s5), R J H2 → Q' (.ref M.a) s5) :
    wpAny (model X.prog X.w) X.A (eval (.GeneratorExp elt (⟨tg, iter, [], 0⟩ :: cs) scope gpos) X.env) Q' X.xe s := by
  generalize he : (.GeneratorExp elt (⟨tg, iter, [], 0⟩ :: cs) scope gpos : Expr) = e at hQ
  have hfree : ∀ y ∈ scope.names, y.2 = .free → ∃ c, X.env.cells.lookup y.1 = some c := fun y hy e => (ok.blk.free y hy e).elim (fun k => I.ok.has _ (.inl k)) (fun k => I.ok.has _ (.inr k))
  rw [← he]
  refine gx_new ok.co (closure_ok hfree) ok.cell ok.dot ok.blk.kind hr.depth ?_ hs
  rw [he]
  refine thn (hi.run pins s σ H _ I h) fun xv s1 h1 => thn h1 fun itv s2 ⟨it, fp, tn, J, H1, eit, I1, T, st, f1, ⟨ps, hP, ht⟩, q1⟩ => ?_
  subst eit
  have hPs : s2.heap.get? P = some { cls := .none, data := .fields ps } := I1.hok P _ hP
  have cd : PySem.W.CodeHd s2.heap c P := TB.code.keeps fun b u e => I1.bk b u e
  have fsz : ∀ b ∈ fp, b < s2.heap.objs.size := fun b hb => let ⟨_, e, _⟩ := T.obj _ _ st b hb; Heap.lt_size e
  have fne : ∀ b ∈ fp, b ≠ P := fun b hb z => by
    have := (f1 b hb).1
    rw [z, hP] at this
    cases this
  have cont : ∀ (code : Value) (h3 : Heap) (tk : Nat) (more : Array Value), Heap.ExtBut P s2.heap h3 → s2.heap.objs.size ≤ h3.objs.size → h3.get? P = some { cls := .none, data := .fields (ps ++ more) } → TriplesOk (ps ++ more).toList →
      wpAny (model X.prog X.w) X.A (builtinsFor X.env.globals X.env.builtins) (fun bi s4 => ∀ h', h'.Ns s4.heap.objs.size (fun y => if y = ".0" then some (.ref it) else none) → Heap.SameBut s4.heap.objs.size (s4.heap.push { cls := .type "frame", data := .dict #[] }) h' →
        Q' (.ref h'.objs.size) { s4 with
          gens := s4.gens.push (.fresh (.compStart e 0 (.ref it) .none (genEnv scope (cloFrom X.env.cells scope.names []) s4.heap.objs.size code bi X.env))), toks := s4.toks + 1 + 1 + 1,
          heap := h'.push { cls := .type "generator", data := .fields #[.int s4.gens.size 0, .str "<genexpr>" (s4.toks + 1), .str (X.env.qual ++ "<genexpr>") (s4.toks + 1 + 1)] } }) X.xe { s2 with heap := h3, toks := tk } := by
    intro code h3 tk more hx hsz hP3 ht3
    obtain ⟨bm, ob, e1, e2, e3, e4, e5, e6, e7, e8⟩ := TB.bm
    have keep3 : ∀ b u, b ≠ P → s2.heap.get? b = some u → h3.get? b = some u := fun b u hb e => hx b u hb e
    have I3 : Inv X pins σ (upd H1 P (.tbl (ps ++ more))) { s2 with heap := h3, toks := tk } := inv_tab (more := more) (h' := h3) (g' := s2.gens) (d' := s2.drawn) (t' := tk) I1 hP keep3 hP3 I1.bare
    refine wpAny_builtinsFor (m := X.mg) (by rw [I1.ok.glob]; exact (I1.mod.glob.keeps I1.bk).extBut hx TB.gP) e1 e2 (keep3 _ _ e4 (I1.bk _ _ e5)) e6 e7 e8 ?_
    intro h' hn' hs'
    generalize hs4 : ({ s2 with heap := h3, toks := tk } : Shared) = s4 at I3 hn' hs' ⊢
    have e4h : s4.heap = h3 := by rw [← hs4]
    have hz : h'.objs.size = s4.heap.objs.size + 1 := by rw [hs'.1, Heap.size_push]
    have kp : ∀ b o, s4.heap.get? b = some o → h'.get? b = some o := fun b o e => hs'.extBut b o (Nat.ne_of_lt (Heap.lt_size e)) (Heap.get?_push_of_some _ e)
    generalize hgo : ({ cls := .type "generator", data := .fields #[.int s4.gens.size 0, .str "<genexpr>" (s4.toks + 1), .str (X.env.qual ++ "<genexpr>") (s4.toks + 1 + 1)] } : Obj) = go
    have kp5 : ∀ b o, s4.heap.get? b = some o → (h'.push go).get? b = some o := fun b o e => Heap.get?_push_of_some _ (kp b o e)
    have ha5 : (h'.push go).get? h'.objs.size = some go := Heap.get?_push_size _ (by rw [← hgo]; rfl)
    have nf : ∀ b ∈ fp, FpOk X pins (upd H1 P (.tbl (ps ++ more))) b ∧ b < s4.heap.objs.size := fun b hb => by
      refine ⟨⟨?_, (f1 b hb).2⟩, by rw [e4h]; exact Nat.lt_of_lt_of_le (fsz b hb) hsz⟩
      rw [upd_ne (fne b hb)]
      exact (f1 b hb).1
    have hAf : (gxA X e it (gxEnv X scope s4 code)).frames = some (gxEnv X scope s4 code :: X.stack) := by
      rw [← he]
      show pushEnvs [gxEnv X scope s4 code] (pushEnvs (envsOf []) X.A.frames) = _
      rw [I1.ok.frames]
      rfl
    have I5 := gx_start (A' := gxA X e it (gxEnv X scope s4 code)) (code := code) (h5 := h'.push go) (gs := .fresh (gx0 e 0 it (gxEnv X scope s4 code))) (tk := s4.toks + 1 + 1 + 1) (a := h'.objs.size) (go := go) I3 ok hN nf (fun z => hr.hd) hAf rfl kp5 (hn'.push _) ha5 (by rw [hz]; exact Nat.lt_succ_self _) (by rw [← hgo]; exact fun v q => nomatch q)
    refine hQ J _ _ ⟨s4, code, fp, tn, it, h'.objs.size, s4.gens.size, go, I3, T, ?_, nf, by rw [hz]; exact Nat.lt_succ_self _, fun h e => ⟨go, _, _, e, by rw [← hgo], by rw [← hgo], by rw [← hgo]⟩, ?_, I5⟩ (q1 _ ⟨⟨ps ++ more, upd_same, ht3⟩, fun b hb => upd_ne hb⟩)
    · exact T.keep _ _ _ st fun b hb o e => kp5 b o (by rw [e4h]; exact keep3 b o (fne b hb) e)
    · exact Array.getElem?_push_size ..
  refine ⟨I1.nolimit, ?_⟩
  cases hf : codeAmong gpos ps.toList with
  | none =>
    refine wpAny_genexprCodeX hcode (cd.code hPs ht) (cd.tab hPs) hf fun c' h' tk hx hge hlt hco' _ htab' _ => ?_
    obtain ⟨o1, us, f1', tf, fl, tg', inF, tx, tt, op, _, _, _, _, _, _, _, _, _, htr, _⟩ := hco'
    exact cont _ h' tk _ hx (Nat.le_trans hge (Nat.le_of_lt hlt)) htab'.2 htr
  | some cv =>
    refine wpAny_genexprCode_hit hcode (cd.code hPs ht) hf ?_
    have := cont cv s2.heap s2.toks #[] (Heap.ExtBut.refl _ _) (Nat.le_refl _) (by simpa using hPs) (by simpa using ht)
    exact this
end
end Sk
set_option Elab.async false
set_option linter.all false
set_option maxRecDepth 100000
set_option maxHeartbeats 4100000
/-! Sk33: any(..), all(..) of a generator expression, as rules. -/
namespace Sk
open PySem L2 Evl PyProof.Rows GenW
open GxR (TabB TabG Tabbed inv_tab)
section
variable {X : Cx} {pins : List (Addr × Obj)} {σ : L2.St} {H : Hp} {s : Shared}
abbrev gxZ (X : Cx) (e : Expr) (scope : Scope) (s4 : Shared) (H2 : Hp) (code : Value) (fp : List Addr) (it : Addr) : Cx := gxX X (gxA X e it (gxEnv X scope s4 code)) s4 H2 (gxEnv X scope s4 code) fp
theorem gx_room {k : Nat} {e elt : Expr} {cs : List Comprehension} {gpos : Pos} {scope : Scope} {s4 : Shared} {code : Value} {it : Addr} (hr : Room (k + 1) X.A) (he : e = .GeneratorExp elt cs scope gpos) : Room k (gxA X e it (gxEnv X scope s4 code)) := by
  subst he
  refine ⟨hr.hd, ?_, ?_⟩
  · have := hr.dp
    show X.A.depth + 0 + 1 + 3 * k + 5 < recursionLimit
    omega
  · have := hr.un
    show X.A.units + 1 + 1 + 0 + 3 + 16 * k + 200 < cLine
    omega
theorem gx_fpall {e tg : Expr} {scope : Scope} {own : List (Str × Nat)} {J : It} {H2 : Hp} {s5 : Shared} (M : GxMade X pins σ own e tg scope J H2 s5) : FpAll (gxZ X e scope M.s4 H2 M.code M.fp M.it) [(M.a, M.go)] M.fp := fun {σ' H' s'} I' hn b hb =>
  ⟨hn b hb, (I'.ok.exf b hb).1, I'.ok.exfs b hb, .inl hb, fun x c e => (I'.ok.exf b hb).2 x c e, fun p hp z => by
    have e : p = (M.a, M.go) := by
      rcases List.mem_append.mp hp with q | q
      · cases q
      · exact List.mem_singleton.mp q
    subst e
    have h1 := (M.nf b hb).2
    have ga := M.ga
    have h2 : M.a = b := z
    rw [h2] at ga
    exact Nat.lt_irrefl _ (Nat.lt_trans h1 ga)⟩
theorem gx_back {e tg : Expr} {scope : Scope} {own : List (Str × Nat)} {J : It} {H2 : Hp} {s5 : Shared} (M : GxMade X pins σ own e tg scope J H2 s5) {P1 : List (Addr × Obj)} {σ' : L2.St} {H' : Hp} {s' : Shared} (I' : Inv (gxZ X e scope M.s4 H2 M.code M.fp M.it) P1 σ' H' s') : Inv X pins σ H' s' :=
  M.I4.call' (ch := M.fp) I'.os I'.base I'.hok I'.bare fun b hb => ⟨(M.nf b hb).1.2.2.2.1, (M.nf b hb).1.2.1, (M.nf b hb).1.2.2.2.2.1, (M.nf b hb).1.2.2.2.2.2⟩
variable {c P : Addr} {elt tg iter tg2 iter2 : Expr} {gpos pos p : Pos} {scope : Scope} {own : List (Str × Nat)} {wi wi2 : TI} {g g2 : TG} {te : TE} {k : Nat} {st : Bool} {Q : VK} {J : It} {H2 : Hp} {s5 : Shared}
end
end Sk
set_option Elab.async false
set_option linter.all false
set_option maxRecDepth 100000
set_option maxHeartbeats 4100000
/-! Sk34: any(..), all(..) of a generator expression, typed. -/
namespace Sk
open PySem L2 Evl
open GxR (TabB TabG Tabbed)
section
variable {K : Fg} {B : Bs} {Γ : Gm} {O : List Own} {σ : St} {G H H' : Hp}
/-- a table has grown -/
theorem Ws.tabbed {P0 : Addr} (hP : P0 ∈ B.T) (W : Ws K B Γ O σ G H) (t : Tabbed P0 H H') : Ws K B Γ O σ G H' := by
  obtain ⟨⟨ps, e1, e2⟩, ht⟩ := t
  obtain ⟨_, n0⟩ := W.tab P0 hP
  refine W.step ⟨fun c o e => ?_, Ex.refl _, fun c o e h1 _ => ?_, fun c h => ?_, fun c h h' => (h' h).elim, fun c hc h => ?_⟩
  · have hne : c ≠ P0 := fun z => by
      rw [z, n0] at e
      cases e
    rw [ht c hne]
    exact W.sub c o e
  · rw [ht c fun z => h1 (by rw [z]; exact hP)]
    exact e
  · by_cases z : c = P0
    · rw [z, e1]
      exact fun q => nomatch q
    · rw [ht c z]
      exact h
  · by_cases z : c = P0
    · rw [z]
      exact ⟨ps, e1, e2⟩
    · obtain ⟨qs, q1, q2⟩ := h
      exact ⟨qs, by rw [ht c z]; exact q1, q2⟩
end
section
variable {ι : Type} {F : ι → Cx} {K : Fg} {B : Bs} {Γ : Gm} {O : List Own} {α : Type} {ra : Rp α} {e tg elt iter : Expr} {n : Str} {p pos gpos : Pos} {scope : Scope}
variable {P : Program} {w : World} {mg : Str → Option Value} {base : Heap} {k : Nat}
/-- the contexts of a generator expression's frame -/
abbrev ιG (ι : Type) (k : Nat) : Type := ι × { A' : Around // Room k A' } × Shared × Hp × Value × List Addr
abbrev gxF {ι : Type} (F : ι → Cx) (k : Nat) (scope : Scope) : ιG ι k → Cx := fun j => gxX (F j.1) j.2.1.1 j.2.2.1 j.2.2.2.1 (gxEnv (F j.1) scope j.2.2.1 j.2.2.2.2.1) j.2.2.2.2.2
instance famGx [fam : Fam F P w K mg base (k + 1)] : Fam (gxF F k scope) P w K mg base k :=
  ⟨fun j => fam.pr j.1, fun j => fam.wd j.1, fun j => fam.ka j.1, fun j => fam.mg j.1, fun j => fam.bs j.1, fun j => j.2.1.2, fun j => fam.cm j.1, fun j => fam.nd j.1⟩
/-- the running def's code object, its table at P0 -/
def TabF (F : ι → Cx) (P0 : Addr) : Prop := ∀ i, ∃ c, TabB (F i).base (F i).mg c P0 ∧ (F i).env.code = .ref c
end
end Sk
set_option Elab.async false
set_option linter.all false
set_option maxRecDepth 100000
set_option maxHeartbeats 4100000
/-! Sk35: any(..), all(..) of a generator expression with two clauses, typed. -/
namespace Sk
open PySem L2 Evl
open GxR (TabB TabG Tabbed)
end Sk
set_option Elab.async false
set_option linter.all false
set_option maxRecDepth 100000
set_option maxHeartbeats 4100000
/-! Sk36: defs that make generators: their code, their table; the end with tables. -/
namespace Sk
open PySem L2 Evl PySem.Spec PyProof.Rows
open GxR (TabB TabG Tabbed)
def gxB (N : List Str) (sc scope : Scope) (own : List (Str × Nat)) : Bool := blkC N sc scope own && (!scope.isCoroutine && (scope.names.all (fun y => match y.2 with | .cell => false | _ => true) && match scope.names.lookup (".0" : Str) with | some .local => true | _ => false))
theorem gxOk_by {N : List Str} {sc scope : Scope} {own : List (Str × Nat)} (h : gxB N sc scope own = true) : GxOk N sc scope own := by
  unfold gxB at h
  rw [Bool.and_eq_true, Bool.and_eq_true, Bool.and_eq_true] at h
  obtain ⟨h1, h2, h3, h4⟩ := h
  refine ⟨blkOk_by h1, by simpa using h2, fun y hy e => ?_, ?_⟩
  · have q := List.all_eq_true.mp h3 y hy
    rw [e] at q
    cases q
  · split at h4
    · assumption
    · cases h4
/-- the code object and the table of a def -/
structure Tf {K : Fg} {mg : Str → Option Value} {n : Str} {st : Stmt} {ps : List Str} (D : Df K mg n st ps) where
  c : Addr
  P0 : Addr
  hc : D.fd.code = .ref c
section
variable {P : Program} {w : World} {K : Fg} {mg : Str → Option Value} {base : Heap} {α β : Type} {ra : RpF α} {rb : Rp β} {pre : α → Prop} {own : α → List Own} {post : α → β → List Own → Prop} {k : Nat}
theorem fun_okC {x qual : Str} {st : Stmt} {f c : Addr} {fd : FuncData} {N ps : List Str} {sp : Sp} (F : Fun K x qual st f fd) (hc : fd.code = .ref c) (S : FnScope N ps (defScope st)) (len : ∀ vs H Q E, sp vs H Q E → vs.length = ps.length)
    (hbody : ∀ (A : Around) (outer : List Env) (s : Shared) (H : Hp) (vs : List V) (Q : VK) (E : XK), Room k (A.deeper (envOfC qual (defScope st) s.heap.objs.size f (.ref c))) → sp vs H Q E →
      ∃ t, PSs (cxOf CX0 P w K mg base N qual (defScope st) f (.ref c) A outer s H E).nox (defBody st) t ∧ t { nx := fun _ H' => Q .non H', rt := Q } (start N vs) H) : FnOk P w K mg base CX0 (k + 1) f fd ps sp := by
  obtain ⟨oc, od, kV, doc, pm, an, cdv, ct, osl, rfl, lk, hcd⟩ := F.ex
  have e : cdv = .ref c := hc
  subst e
  refine fn_of lk hcd S len fun A outer s H vs Q E hr hsp => ?_
  obtain ⟨t, h, q⟩ := hbody A outer s H vs Q E hr hsp
  exact ⟨t, h.nox, q⟩
/-- as fn_m, the def's code object known -/
theorem fn_g {x qual : Str} {st : Stmt} {f c : Addr} {fd : FuncData} {N ps : List Str} {m : Nat} {g : α → Gm} [hl : Len ra m] [ha : Args ra g]
    (F : Fun K x qual st f fd) (hc : fd.code = .ref c) (S : FnScope N ps (defScope st)) (T : List Addr)
    (h : ∀ (A : Around) (outer : List Env) (s : Shared) (G H : Hp) (E : XK) (x : α) (Q : VK), Fam (Us (Xf P w K mg base N qual st f (.ref c) A outer s H E)) P w K mg base k → pre x →
      (∀ {Γ : Gm} {O' : List Own} {y : β}, post x y O' → RT K ⟨T, (own x).map (·.a), G, H, []⟩ Γ O' rb y { nx := fun _ H' => Q .non H', rt := Q }) →
      DS (Xf P w K mg base N qual st f (.ref c) A outer s H E) K ⟨T, (own x).map (·.a), G, H, []⟩ (g x ++ List.replicate (N.length - m) none) (own x) (defBody st) { nx := fun _ H' => Q .non H', rt := Q }) (hm : m = ps.length := by rfl) :
    FnOk P w K mg base CX0 (k + 1) f fd ps (spM K T ra pre own rb post) := by
  refine fun_okC F hc S (fun vs H Q E ⟨G, x, _, _, r, _⟩ => by rw [hl.len r]; exact hm) fun A outer s H vs Q E hr ⟨G, x, sub, tab, r, hp, ho, hn, q⟩ => ?_
  have fam : Fam (Us (Xf P w K mg base N qual st f (.ref c) A outer s H E)) P w K mg base k := ⟨fun _ => rfl, fun _ => rfl, fun _ => rfl, fun _ => rfl, fun _ => rfl, fun _ => hr, fun _ => rfl, fun _ => S.nd⟩
  have hx := h A outer s G H E x Q fam hp (fun {Γ O' y} hpost v σ G' H' W rv => q v y O' G' H' W.st (fun w hw => let ⟨a, b, c, d⟩ := W.own w hw; ⟨a, b, c, d⟩) W.nd rv hpost)
  refine hx (L2.start N vs) G H ⟨Stp.refl sub, tab, fun _ z => absurd z (by simp), ?_, fun w hw => ?_, hn, fun c hc => ?_⟩
  · have e := ha.env (m := N.length - m) r
    unfold L2.start
    rw [hl.len r]
    exact e
  · obtain ⟨a, b, c⟩ := ho w hw
    exact ⟨a, b, c, .inr (List.mem_map.mpr ⟨w, hw, rfl⟩)⟩
  · obtain ⟨w, hw, e⟩ := List.mem_map.mp hc
    obtain ⟨⟨o, a, _⟩, _⟩ := ho w hw
    show H c ≠ none
    rw [← e, a]
    simp
theorem tabF {qual : Str} {st : Stmt} {f c P0 : Addr} {N : List Str} {A : Around} {outer : List Env} {s : Shared} {H : Hp} {E : XK} (tb : TabB base mg c P0) : TabF (Us (Xf P w K mg base N qual st f (.ref c) A outer s H E)) P0 := fun _ => ⟨c, tb, rfl⟩
end
/-- the head's list, the tables empty -/
theorem start_tabs {K : Fg} {H : Hp} {T : List Addr} (hT : ∀ P ∈ T, H P = some (.tbl #[])) {a : Addr} {ns : List Int} (hS : SqL K H a (ns.map V.int)) (hK : ∀ P ∈ T, K.lookup P = none) :
    ∃ G : Hp, Ex G H ∧ (∀ P ∈ T, (∃ ps, H P = some (.tbl ps) ∧ TriplesOk ps.toList) ∧ G P = none) ∧ SqL K G a (ns.map V.int) := by
  classical
  refine ⟨fun b => if b ∈ T then none else H b, fun b o e => ?_, fun P hP => ⟨⟨#[], hT P hP, trivial⟩, if_pos hP⟩, ?_⟩
  · have e : (if b ∈ T then none else H b) = some o := e
    by_cases hb : b ∈ T
    · rw [if_pos hb] at e
      cases e
    · rw [if_neg hb] at e
      exact e
  · have hne : ∀ o, H a = some o → (∀ ps, o ≠ .tbl ps) → (if a ∈ T then none else H a) = some o := fun o e n => by
      rw [if_neg fun z => n #[] (Option.some.inj (e.symm.trans (hT a z)))]
      exact e
    rcases hS with h | h
    · left
      rcases h with h | h
      · exact .inl (hne _ h fun _ z => by cases z)
      · obtain ⟨o, h⟩ := h
        exact .inr ⟨o, hne _ h fun _ z => by cases z⟩
    · exact .inr h
end Sk
set_option Elab.async false
set_option linter.all false
set_option maxRecDepth 100000
set_option maxHeartbeats 4100000
/-! Sk37: the end by a Hook that tells the defs by name, their tables too. -/
namespace Sk
open PySem L2 Evl PySem.Spec PyProof.Rows
section
variable {K : Fg} {mg : Str → Option Value} {h : Heap} {fa : List He.Fa} {fn : List He.DefD}
abbrev dD (n : Str) (st : Stmt) : He.DefD := ⟨(n, none), n, n, defArgs st, defBody st, defScope st, [], []⟩
theorem fun_ofD {x qual : Str} {st : Stmt} {f : Addr} {fd : FuncData} (F : FunD K x qual (defArgs st) (defBody st) (defScope st) [] [] f fd) : Fun K x qual st f fd := by
  obtain ⟨oc, od, dV, kV, doc, pm, an, cdv, ct, osl, e, lk, hcd, hd, _⟩ := F.ex
  rcases hd with ⟨_, z⟩ | ⟨z, _⟩
  · subst z
    exact ⟨⟨oc, od, kV, doc, pm, an, cdv, ct, osl, e, lk, hcd⟩, F.kp⟩
  · exact absurd rfl z
/-- a def as the head tells it -/
theorem df_of (c : He.SaysD fa fn K) (X : K.In h) (G : h.Ns mainGlobals mg) (i j : Nat) {n : Str} {st : Stmt} {ps : List Str} (hi : fn[i]? = some (dD n st)) (hj : fa[j]? = some (.glo n))
    (hb : ∀ (f : Addr) (fd : FuncData), Fun K n n st f fd → Binds K fd ps []) : ∃ D : Df K mg n st ps, D.fd.code = .ref (He.codeOf K (n, none)) ∧ FunD K n n (defArgs st) (defBody st) (defScope st) [] [] D.f D.fd := by
  obtain ⟨fd, F⟩ := c.def_ i (d := dD n st) hi
  have F1 := fun_ofD F
  refine ⟨⟨He.fAd K (n, none), fd, F1, He.glo_ok X G (c.fact j (f := .glo n) hj), hb _ _ F1⟩, ?_, F⟩
  obtain ⟨oc, od, dV, kV, doc, pm, an, cdv, ct, osl, e, lk, hcd, _, _⟩ := F.ex
  obtain ⟨cc, e2⟩ := He.codeIn_ref hcd
  have e3 : fd.code = .ref cc := by rw [e, e2] <;> rfl
  rw [He.codeOf_eq (p := (n, none)) lk e3]
  exact e3
end
/-- THE END, with tables, the part of the heap told by the Hook -/
theorem walk_tabsE {l : PySem.W.OpenLaw} {q : Program} {loose : List Str} {XP : (Str → Option Value) → Heap → Prop} {YP : World → Heap → Prop} {d : DefRec} {k : Nat} {x : Str} (hn : l.most = some 63) (hdf : d.params.defaults = []) (hr : Room k callerA)
    (F : ∀ (w : World) (mg : Str → Option Value) (fa : Addr) (h : Heap), YP w h → h.Ns mainGlobals mg → mg d.name = some (.ref fa) →
      ∃ (K : Fg) (fd : FuncData) (cs : List (Addr × Addr)), K.In h ∧ (∀ p ∈ cs, h.get? p.2 = some { cls := .none, data := .fields #[] }) ∧ (∀ p ∈ cs, K.lookup p.2 = none) ∧ (∀ p ∈ cs, PySem.W.codeHdIn K p.1 p.2 = true) ∧ (∀ (s : Shared) (u : Value), BindsTo s fd ⟨[u], []⟩ [(x, u)]) ∧
        ∀ base : Heap, K.In base → base.Ns mainGlobals mg → (∀ p ∈ cs, GxR.TabB base mg p.1 p.2) → FnOk l.prog w K mg base CX0 k fa fd [x] (sp0 K (cs.map (·.2)) (fOne (rSeq rInt)) (fun ns => ns.length ≤ 63) rBool fun _ y => y = true)) :
    PySem.W.WalkO q loose XP YP l.row.toRowW d [] (fun f vs => PySem.call f vs) := by
  refine LamX.walk_ofTsE (n := 63) (k := k) (x := x) (CX := fun _ => CX0) hn (by decide) hdf hr (fun w mg fa h Y G hmg => ?_) fun _ _ _ _ _ z => z
  obtain ⟨K, fd, cs, KX, h1, h2, h3, h4, h5⟩ := F w mg fa h Y G hmg
  refine ⟨K, KX, fd, cs, _, h1, h2, fun p hp => PySem.W.codeHd_of_K KX (h3 p hp), h4, fun H a ns hl _ hTb hS => ?_, fun base kx g tb => h5 base kx g fun p hp => ⟨(tb p hp).code, (tb p hp).bm, (tb p hp).gP⟩⟩
  obtain ⟨G0, e0, t0, s0⟩ := start_tabs (T := cs.map (·.2)) (fun P hP => by
    obtain ⟨p, hp, e⟩ := List.mem_map.mp hP
    rw [← e]
    exact hTb p hp) hS (fun P hP => by
    obtain ⟨p, hp, e⟩ := List.mem_map.mp hP
    rw [← e]
    exact h2 p hp)
  exact ⟨G0, ns, e0, t0, ⟨.ref a, rfl, a, ns.map V.int, rfl, s0, All2.of_int ns⟩, hl, fun v hv => absurd hv (by simp), List.nodup_nil, fun v y O' G' H' _ _ _ r p => by
      have r' : v = .bl y := r
      rw [r', show y = true from p.2]⟩
end Sk
set_option Elab.async false
set_option linter.all false
set_option maxRecDepth 100000
set_option maxHeartbeats 4100000
/-! Sk38: min(..) of a generator expression over ints (raw). -/
namespace Sk
open PySem L2 Evl PyProof.Rows GenW
open GxR (TabB TabG Tabbed inv_tab)
/-- what min's own list holds -/
def BestAt (h : Heap) (S : Addr) (b : Option Int) : Prop := ∃ (c : Nat), match b with
  | none => h.get? S = some { cls := .type "list", dict := none, data := .seq #[] c, slots := #[] }
  | some k => ∃ t t', h.get? S = some { cls := .type "list", dict := none, data := .seq #[.int k t, .int k t'] c, slots := #[] }
def mnV (b : Option Int) (k : Int) : Int := match b with
  | none => k
  | some j => if k < j then k else j
end Sk
set_option Elab.async false
set_option linter.all false
set_option maxRecDepth 100000
set_option maxHeartbeats 4100000
/-! Sk39: min(..) of a generator expression, one clause, as a rule. -/
namespace Sk
open PySem L2 Evl PyProof.Rows GenW
open GxR (TabB TabG Tabbed inv_tab)
section
variable {X : Cx} {pins : List (Addr × Obj)} {σ : L2.St} {H : Hp} {s : Shared}
theorem BestAt.put {h : Heap} {S : Addr} {b : Option Int} (hb : BestAt h S b) (k : Int) (t : Tok) : ∃ c : Nat, BestAt (h.update S (Obj.mapSeq fun _ => #[.int k t, .int k t])) S (some k) := by
  cases b with
  | none =>
    obtain ⟨c, e⟩ := hb
    exact ⟨c, _, t, t, Heap.get?_update_self _ e rfl⟩
  | some j =>
    obtain ⟨c, u1, u2, e⟩ := hb
    exact ⟨c, _, t, t, Heap.get?_update_self _ e rfl⟩
variable {c P : Addr} {elt tg iter : Expr} {gpos pos p : Pos} {scope : Scope} {own : List (Str × Nat)} {wi : TI} {g : TG} {te : TE} {k : Nat} {Q : VK} {J : It} {H2 : Hp} {s5 : Shared}
end
end Sk
set_option Elab.async false
set_option linter.all false
set_option maxRecDepth 100000
set_option maxHeartbeats 4100000
/-! Sk40: min(..) of a generator expression, typed. -/
namespace Sk
open PySem L2 Evl PyProof.Rows GenW
open GxR (TabB TabG Tabbed)
end Sk
set_option Elab.async false
set_option linter.all false
set_option maxRecDepth 100000
set_option maxHeartbeats 4100000
/-! Sk41: one of two kinds of things; x in xs, data of any depth; == of such. -/
namespace Sk
open PySem L2 Evl
section
variable {α β γ : Type}
def rSum (ra : Rp α) (rb : Rp β) : Rp (α ⊕ β) := ⟨fun K G v x => match x with
  | .inl a => ra.rep K G v a
  | .inr b => rb.rep K G v b, fun {K G G' v x} e h => by
    cases x with
    | inl a => exact ra.mono e h
    | inr b => exact rb.mono e h⟩
instance notNonSum {ra : Rp α} {rb : Rp β} [ha : NotNon ra] [hb : NotNon rb] : NotNon (rSum ra rb) := ⟨fun {K G v x} h => by
  cases x with
  | inl a => exact ha.ne h
  | inr b => exact hb.ne h⟩
variable {ι : Type} {F : ι → Cx} {K : Fg} {B : Bs} {Γ : Gm} {O : List Own} {ra : Rp α} {rb : Rp β} {rc : Rp γ} {e : Expr}
theorem d_inl {Φ : α ⊕ β → List Own → Prop} (h : DW F K B Γ O e ra fun x O' => Φ (.inl x) O') : DW F K B Γ O e (rSum ra rb) Φ := fun σ G H W Q q =>
  h σ G H W Q fun x O' v G' H' kk W' e' hv => q (.inl x) O' v G' H' kk W' e' hv
theorem d_inr {Φ : α ⊕ β → List Own → Prop} (h : DW F K B Γ O e rb fun x O' => Φ (.inr x) O') : DW F K B Γ O e (rSum ra rb) Φ := fun σ G H W Q q =>
  h σ G H W Q fun x O' v G' H' kk W' e' hv => q (.inr x) O' v G' H' kk W' e' hv
variable {X : Cx} {D : Ends} {rest : List Stmt}
/-! ### == -/
/-- unlike data -/
class Unl (enc : α → PyData) (enc' : β → PyData) : Prop where
  ne : ∀ x y, PyData.eqv (enc x) (enc' y) = false
  en : ∀ x y, PyData.eqv (enc' y) (enc x) = false
abbrev encSum (enc : α → PyData) (enc' : β → PyData) : α ⊕ β → PyData := fun x => match x with
  | .inl a => enc a
  | .inr b => enc' b
abbrev goodSum (g : α → Prop) (g' : β → Prop) : α ⊕ β → Prop := fun x => match x with
  | .inl a => g a
  | .inr b => g' b
instance datSum {enc : α → PyData} {enc' : β → PyData} {n m : Nat} {good : α → Prop} {good' : β → Prop} [ha : Dat ra enc n good] [hb : Dat rb enc' m good'] [hu : Unl enc enc'] : Dat (rSum ra rb) (encSum enc enc') (max n m) (goodSum good good') where
  dp := fun {K G H v x} e h => by
    cases x with
    | inl a => exact ha.dp e h
    | inr b => exact hb.dp e h
  lay := fun {x} h => by
    cases x with
    | inl a => exact ha.lay h
    | inr b => exact hb.lay h
  dep := fun x => by
    cases x with
    | inl a => exact Nat.le_trans (ha.dep a) (Nat.le_max_left _ _)
    | inr b => exact Nat.le_trans (hb.dep b) (Nat.le_max_right _ _)
  eqv := fun x y => by
    cases x with
    | inl a =>
      cases y with
      | inl a' => exact (ha.eqv a a').trans ⟨fun h => by rw [h], fun h => by injection h⟩
      | inr b => exact ⟨fun h => (by rw [show PyData.eqv (encSum enc enc' (.inl a)) (encSum enc enc' (.inr b)) = false from hu.ne a b] at h; cases h), fun h => (by cases h)⟩
    | inr b =>
      cases y with
      | inl a => exact ⟨fun h => (by rw [show PyData.eqv (encSum enc enc' (.inr b)) (encSum enc enc' (.inl a)) = false from hu.en a b] at h; cases h), fun h => (by cases h)⟩
      | inr b' => exact (hb.eqv b b').trans ⟨fun h => by rw [h], fun h => by injection h⟩
abbrev encOpt (enc : α → PyData) : Option α → PyData := fun x => match x with
  | none => PyData.none
  | some y => enc y
instance (priority := low) datOpt {enc : α → PyData} {n : Nat} {good : α → Prop} [hr : Dat ra enc n good] [hu : Unl (fun _ : Unit => PyData.none) enc] : Dat (rOpt ra) (encOpt enc) n (fun x => ∀ y, x = some y → good y) where
  dp := fun {K G H v x} e h => by
    cases x with
    | none =>
      rw [show v = V.non from h]
      exact .non
    | some y => exact hr.dp e h.2
  lay := fun {x} h => by
    cases x with
    | none => rfl
    | some y => exact hr.lay (h y rfl)
  dep := fun x => by
    cases x with
    | none => exact Nat.zero_le _
    | some y => exact hr.dep y
  eqv := fun x y => by
    cases x with
    | none =>
      cases y with
      | none => exact ⟨fun _ => rfl, fun _ => rfl⟩
      | some b => exact ⟨fun h => (by rw [show PyData.eqv (encOpt enc none) (encOpt enc (some b)) = false from hu.ne () b] at h; cases h), fun h => (by cases h)⟩
    | some a =>
      cases y with
      | none => exact ⟨fun h => (by rw [show PyData.eqv (encOpt enc (some a)) (encOpt enc none) = false from hu.en () a] at h; cases h), fun h => (by cases h)⟩
      | some b => exact (hr.eqv a b).trans ⟨fun h => by rw [h], fun h => by injection h⟩
instance unlNT {enc : α → List PyData} : Unl (fun _ : Unit => PyData.none) (fun x => PyData.tuple (enc x)) := ⟨fun _ _ => rfl, fun _ _ => rfl⟩
instance unlNL {enc : α → List PyData} : Unl (fun _ : Unit => PyData.none) (fun x => PyData.list (enc x)) := ⟨fun _ _ => rfl, fun _ _ => rfl⟩
instance unlNI : Unl (fun _ : Unit => PyData.none) PyData.int := ⟨fun _ _ => rfl, fun _ _ => rfl⟩
instance unlNS : Unl (fun _ : Unit => PyData.none) PyData.str := ⟨fun _ _ => rfl, fun _ _ => rfl⟩
instance unlIT {enc : α → List PyData} : Unl PyData.int (fun x => PyData.tuple (enc x)) := ⟨fun _ _ => rfl, fun _ _ => rfl⟩
instance unlIS : Unl PyData.int PyData.str := ⟨fun _ _ => rfl, fun _ _ => rfl⟩
instance unlST {enc : α → List PyData} : Unl PyData.str (fun x => PyData.tuple (enc x)) := ⟨fun _ _ => rfl, fun _ _ => rfl⟩
instance unlNSum {enc : α → PyData} {enc' : β → PyData} [ha : Unl (fun _ : Unit => PyData.none) enc] [hb : Unl (fun _ : Unit => PyData.none) enc'] : Unl (fun _ : Unit => PyData.none) (encSum enc enc') := ⟨fun x y => by
  cases y with
  | inl a => exact ha.ne x a
  | inr b => exact hb.ne x b, fun x y => by
  cases y with
  | inl a => exact ha.en x a
  | inr b => exact hb.en x b⟩
/-! ### in -/
variable {P : Program} {w : World} {mg : Str → Option Value} {base : Heap} {k : Nat}
end
end Sk
set_option Elab.async false
set_option linter.all false
set_option maxRecDepth 100000
set_option maxHeartbeats 4100000
/-! Sk42: sum(..) of a generator expression over ints. -/
namespace Sk
open PySem L2 Evl PyProof.Rows GenW
open GxR (TabB TabG Tabbed inv_tab)
/-- what sum's own list holds -/
def SumAt (h : Heap) (S : Addr) (b : Int) : Prop := ∃ (c : Nat) (t : Tok), h.get? S = some { cls := .type "list", dict := none, data := .seq #[.int b t] c, slots := #[] }
/-- it is written anew, once or twice -/
def PutS (S : Addr) (h : Heap) (k : Int) (t : Tok) (h' : Heap) : Prop := h' = h.update S (Obj.mapSeq fun _ => #[.int k t]) ∨ h' = (h.update S (Obj.mapSeq fun _ => #[.int k t])).update S (Obj.mapSeq fun _ => #[.int k t])
section
variable {prog : Program} {w : World} {A : Around} {E : Value → Shared → Prop}
theorem sum_inv {I S : Addr} {R : Result → Shared → Prop} (J : Nat → Int → Shared → Prop)
    (turn : ∀ m b s, J m b s → SumAt s.heap S b ∧ wpAny (model prog w) A.in1 (pyNext (.ref I)) (fun r s1 => SumAt s1.heap S b ∧ ((r = none ∧ ∀ t, R (.ok (.ret (.int b t))) s1) ∨
      ∃ k t, r = some (.int k t) ∧ ∃ m', m' < m ∧ ∀ t' tk h', PutS S s1.heap (b + k) t' h' → J m' (b + k) { s1 with heap := h', toks := tk })) (fun _ _ => False) s) :
    ∀ (m : Nat) (b : Int) (s : Shared) (st : Int), (st = 0 ∨ st = 2) → J m b s → codeAny (model prog w) A (.builtin "sum.loop" ⟨[.ref I, .ref S, rawInt st, rawInt 0], []⟩) R s := by
  intro m
  induction m using Nat.strongRecOn with
  | ind m ih =>
    intro b s st hst2 hJ
    obtain ⟨hb, ht⟩ := turn m b s hJ
    refine codeAny_builtin F.entry_sum_loop ?_
    rw [Around.under_plainId F.plain_sum_loop _]
    obtain ⟨c, tA, hS⟩ := hb
    show wpAny _ A.in1 (seqItems? (.ref S) >>= _) _ _ s
    refine wpAny_bind (wpAny_seqItems hS rfl ?_)
    show wpAny _ A.in1 (tryCatch (pyNext (.ref I)) _ >>= _) _ _ s
    refine wpAny_bind (wpAny_tryCatch (wpAny_mono ht (fun r s1 h => ?_) fun _ _ z => z.elim))
    obtain ⟨⟨c1, t1, hS1⟩, h⟩ := h
    rcases h with ⟨e, hR⟩ | ⟨k, t, e, m', hm, h1⟩
    · subst e
      exact wpAny_pure (hR tA)
    · subst e
      rcases hst2 with rfl | rfl
      · show wpAny _ A.in1 (if (_ : Bool) = true then (mkInt (b + k) >>= _) else _) _ _ _
        split
        · refine wpAny_bind (wpAny_mkInt ?_)
          show wpAny _ A.in1 (updateSeq S (fun _ => #[.int (b + k) s1.toks]) >>= _) _ _ _
          refine wpAny_bind ?_
          exact wpAny_updateSeq hS1 rfl (wpAny_pure ⟨plainId_quiet F.plain_sum_loop _, ih m' hm _ _ 0 (.inl rfl) (h1 s1.toks _ _ (.inl rfl))⟩)
        · refine wpAny_bind (wpAny_rule ?_)
          refine wpAny_bind (wpAny_attempt (wpAny_holding (wpAny_add_int ?_)))
          show wpAny _ A.in1 (updateSeq S (fun _ => #[.int (b + k) s1.toks]) >>= _) _ _ _
          refine wpAny_bind (wpAny_updateSeq hS1 rfl ?_)
          have hS₂ := Heap.get?_update_self (Obj.mapSeq fun _ => #[Value.int (b + k) s1.toks]) hS1 rfl
          refine wpAny_bind (wpAny_letGo ?_)
          exact wpAny_bind (wpAny_updateSeq hS₂ rfl (wpAny_pure ⟨plainId_quiet F.plain_sum_loop _, ih m' hm _ _ 2 (.inr rfl) (h1 s1.toks _ _ (.inr rfl))⟩))
      · show wpAny _ A.in1 ((holding [Value.int k t] (binaryOp .Add (.int b tA) (.int k t))).attempt >>= _) _ _ _
        refine wpAny_bind (wpAny_attempt (wpAny_holding (wpAny_add_int ?_)))
        show wpAny _ A.in1 (updateSeq S (fun _ => #[.int (b + k) s1.toks]) >>= _) _ _ _
        refine wpAny_bind (wpAny_updateSeq hS1 rfl ?_)
        have hS₂ := Heap.get?_update_self (Obj.mapSeq fun _ => #[Value.int (b + k) s1.toks]) hS1 rfl
        refine wpAny_bind (wpAny_letGo ?_)
        exact wpAny_bind (wpAny_updateSeq hS₂ rfl (wpAny_pure ⟨plainId_quiet F.plain_sum_loop _, ih m' hm _ _ 2 (.inr rfl) (h1 s1.toks _ _ (.inr rfl))⟩))
theorem call_sumI {a gi : Addr} {s : Shared} {Q : Value → Shared → Prop} (hg : s.heap.IsGen a gi) (J : Nat → Int → Shared → Prop)
    (turn : ∀ m b s1, J m b s1 → SumAt s1.heap s.heap.objs.size b ∧ wpAny (model prog w) A.in1 (pyNext (.ref a)) (fun r s2 => SumAt s2.heap s.heap.objs.size b ∧ ((r = none ∧ ∀ t, Q (.int b t) s2) ∨
      ∃ k t, r = some (.int k t) ∧ ∃ m', m' < m ∧ ∀ t' tk h', PutS s.heap.objs.size s2.heap (b + k) t' h' → J m' (b + k) { s2 with heap := h', toks := tk })) (fun _ _ => False) s1)
    {m : Nat} (hJ : ∀ t tk, J m 0 { s with heap := s.heap.push { cls := .type "list", data := .seq #[.int 0 t] }, toks := tk }) : wpAny (model prog w) A (call (.builtin "sum") [.ref a]) Q E s := by
  refine call_function_tree F.kind_sum F.plain_sum F.entry_sum (F.args_sum1 _) ?_
  unfold Builtin.«sum»
  simp only [List.length_cons, List.length_nil]
  rw [if_neg (by decide)]
  refine wpAny_bind (wpAny_of_eq (show Builtin.Builtins.bindParams "sum" ["start"] 0 { } = pure [none] from rfl) ?_)
  refine wpAny_bind (wpAny_pyIter_gen hg ?_)
  refine wpAny_bind (wpAny_mkInt ?_)
  refine wpAny_bind (wpAny_pure ?_)
  simp only [List.forIn_cons, List.forIn_nil]
  refine wpAny_bind (wpAny_bind (wpAny_bind (wpAny_isInstance (T := "int") (b := false) (typeIs_int _ _ _) PySem.sub_int_str ?_)))
  simp only [Bool.false_eq_true, if_false]
  refine wpAny_pure (wpAny_bind (wpAny_bind (wpAny_isInstance (T := "int") (b := false) (typeIs_int _ _ _) PySem.sub_int_bytes ?_)))
  simp only [Bool.false_eq_true, if_false]
  refine wpAny_pure (wpAny_bind (wpAny_bind (wpAny_isInstance (T := "int") (b := false) (typeIs_int _ _ _) PySem.sub_int_bytearray ?_)))
  simp only [Bool.false_eq_true, if_false]
  refine wpAny_pure (wpAny_pure ?_)
  refine wpAny_bind (wpAny_newObj_type ?_)
  refine wpAny_pure ⟨plainId_quiet F.plain_sum_loop _, sum_inv J (fun m b s1 h => ?_) m 0 _ 0 (.inl rfl) (hJ _ _)⟩
  obtain ⟨h1, h2⟩ := turn m b s1 h
  refine ⟨h1, wpAny_mono h2 (fun r s2 z => ?_) fun _ _ z => z⟩
  obtain ⟨z1, z2⟩ := z
  refine ⟨z1, ?_⟩
  rcases z2 with ⟨e, q⟩ | q
  · exact .inl ⟨e, fun t => by simpa using q t⟩
  · exact .inr q
end
/-- bs: the sum of the first i -/
def GxWantS (J : It) (g : TG) (te : TE) (σw : L2.St) (vs : List Nat) (Q : VK) (H2 : Hp) : Prop :=
  ∀ Sb, H2 Sb = none → ∃ (n : Nat) (bs : Nat → Int) (C : Nat → Hp → Prop), bs 0 = 0 ∧ C 0 (upd H2 Sb (.lst [.int 0])) ∧ ∀ i H, C i H → H Sb = some (.lst [.int (bs i)]) ∧ ((i = n ∧ J.stop i H ∧ Q (.int (bs n)) H) ∨
    (i < n ∧ J.go i H ∧ ∀ x H1, J.yld i H x H1 → g x σw H1 fun σ2 H2 => wipe σ2 vs = σw ∧ te σ2 H2 fun y H3 => ∃ k, y = .int k ∧ H3 Sb = some (.lst [.int (bs i)]) ∧ bs (i + 1) = bs i + k ∧ C (i + 1) (upd H3 Sb (.lst [.int (bs (i + 1))]))))
def tGxS (P : Addr) (wi : TI) (g : TG) (te : TE) (vs : List Nat) : TE := fun σ H Q => wi σ H fun J H1 => TabG H1 P ∧ ∀ H2, Tabbed P H1 H2 → GxWantS J g te (wipe σ vs) vs Q H2
section
variable {X : Cx} {pins : List (Addr × Obj)} {σ : L2.St} {H : Hp} {s : Shared}
theorem sumAt_of {Sb : Addr} {b : Int} (I : Inv X pins σ H s) (h : H Sb = some (.lst [.int b])) : SumAt s.heap Sb b := by
  obtain ⟨its, n, r, e, _⟩ := I.lst h
  cases r with
  | cons r1 t =>
    cases t
    obtain ⟨u1, h1⟩ := r1
    subst h1
    exact ⟨n, u1, e⟩
theorem sum_put {Sb : Addr} {b k : Int} {t : Tok} (tk : Tok) (I : Inv X pins σ H s) (h : H Sb = some (.lst [.int b])) :
    Inv X pins σ (upd H Sb (.lst [.int k])) { s with heap := s.heap.update Sb (Obj.mapSeq fun _ => #[.int k t]), toks := tk } := by
  obtain ⟨its, n, r, e, _⟩ := I.lst h
  exact I.lset (t' := tk) h e (f := fun _ => #[.int k t]) rfl (ys := [.int k]) (its' := [.int k t]) (.cons ⟨t, rfl⟩ .nil) (show 1 ≤ sizeLine by decide)
theorem SumAt.put {h : Heap} {S : Addr} {b : Int} (hb : SumAt h S b) (k : Int) (t : Tok) : SumAt (h.update S (Obj.mapSeq fun _ => #[.int k t])) S k := by
  obtain ⟨c, u, e⟩ := hb
  exact ⟨c, t, Heap.get?_update_self _ e rfl⟩
theorem SumAt.puts {h h' : Heap} {S : Addr} {b : Int} (hb : SumAt h S b) {k : Int} {t : Tok} (hp : PutS S h k t h') : SumAt h' S k := by
  rcases hp with e | e <;> subst e
  · exact hb.put k t
  · exact (hb.put k t).put k t
theorem upd2 {H : Hp} {a : Addr} {o o' : HO} : upd (upd H a o) a o' = upd H a o' := funext fun b => by
  by_cases z : b = a
  · rw [z, upd_same, upd_same]
  · rw [upd_ne z, upd_ne z, upd_ne z]
theorem puts_inv {Sb : Addr} {b k : Int} {t tk : Tok} {h' : Heap} (I : Inv X pins σ H s) (h : H Sb = some (.lst [.int b])) (hp : PutS Sb s.heap k t h') : Inv X pins σ (upd H Sb (.lst [.int k])) { s with heap := h', toks := tk } := by
  rcases hp with e | e <;> subst e
  · exact sum_put tk I h
  · have := sum_put (k := k) (t := t) tk (sum_put (k := k) (t := t) tk I h) (b := k) upd_same
    rw [upd2] at this
    exact this
theorem puts_other {Sb c : Addr} {h h' : Heap} {k : Int} {t : Tok} {o : Obj} (hp : PutS Sb h k t h') (hne : Sb ≠ c) (e : h.get? c = some o) : h'.get? c = some o := by
  rcases hp with z | z <;> subst z
  · exact (Heap.get?_update_other _ _ hne).trans e
  · exact (Heap.get?_update_other _ _ hne).trans ((Heap.get?_update_other _ _ hne).trans e)
variable {c P : Addr} {elt tg iter : Expr} {gpos pos p : Pos} {scope : Scope} {own : List (Str × Nat)} {wi : TI} {g : TG} {te : TE} {k : Nat} {Q : VK} {J : It} {H2 : Hp} {s5 : Shared}
theorem gx_runS (hr : Room (k + 1) X.A) (hc : X.calm = true) (ok : GxOk X.N X.env.scope scope own) (M : GxMade X pins σ own (gxOne elt tg iter scope gpos) tg scope J H2 s5)
    (pg : ∀ (A' : Around) (s : Shared) (H : Hp) (code : Value) (fp : List Addr), Room k A' → PG (gxX X A' s H (gxEnv X scope s code) fp) tg g) (pe : ∀ (A' : Around) (s : Shared) (H : Hp) (code : Value) (fp : List Addr), Room k A' → PE (gxX X A' s H (gxEnv X scope s code) fp) elt te)
    (hw : GxWantS J g te (wipe σ (own.map fun p : Str × Nat => p.2)) (own.map fun p : Str × Nat => p.2) Q H2) : wpAny (model X.prog X.w) X.A (call (.builtin "sum") [.ref M.a]) (EP X pins σ Q) X.xe s5 := by
  have hS2 : H2 s5.heap.objs.size = none := M.I5.fresh
  obtain ⟨n, bs, C, b0, c0, step⟩ := hw _ hS2
  have hroom := gx_room (it := M.it) (s4 := M.s4) (code := M.code) hr (e := gxOne elt tg iter scope gpos) rfl
  have hpn : (M.a, M.go) ∈ (gxZ X (gxOne elt tg iter scope gpos) scope M.s4 H2 M.code M.fp M.it).pn ++ [(M.a, M.go)] := List.mem_append_right _ (List.mem_singleton_self _)
  generalize hSb : s5.heap.objs.size = Sb at hS2 c0 step
  let Yd : Nat → V → Slp → Shared → Prop := fun m y S s => ∃ kk, y = .int kk ∧ SumAt s.heap Sb (bs (n - m)) ∧ bs (n - m + 1) = bs (n - m) + kk ∧ ∀ t tk h', PutS Sb s.heap (bs (n - m) + kk) t h' → S { s with heap := h', toks := tk }
  let Dn : Nat → Slp := fun m s => m = 1 ∧ ∃ H, Inv X pins σ H s ∧ H Sb = some (.lst [.int (bs n)]) ∧ Q (.int (bs n)) H
  have I6 : ∀ t tk, Inv (gxZ X (gxOne elt tg iter scope gpos) scope M.s4 H2 M.code M.fp M.it) [(M.a, M.go)] (wipe σ (own.map fun p : Str × Nat => p.2)) (upd H2 Sb (.lst [.int 0])) { s5 with heap := s5.heap.push { cls := .type "list", data := .seq #[.int 0 t] }, toks := tk } := fun t tk => by
    have := M.I5.lnew (ys := [.int 0]) (its := [.int 0 t]) (t' := tk) (.cons ⟨t, rfl⟩ .nil) (show 1 ≤ sizeLine by decide)
    rw [hSb] at this
    exact this
  have neFp : ∀ b ∈ M.fp, b ≠ Sb := fun b hb z => by
    have h1 := (M.nf b hb).2
    have h2 : M.s4.heap.objs.size < M.a := M.ga
    have h3 : M.a < s5.heap.objs.size := Heap.lt_size (M.I5.pin _ hpn).1
    rw [z, ← hSb] at h1
    exact Nat.lt_irrefl _ (Nat.lt_trans (Nat.lt_trans h1 h2) h3)
  have h6 : ∀ t tk, gxS (gxZ X (gxOne elt tg iter scope gpos) scope M.s4 H2 M.code M.fp M.it) [(M.a, M.go)] (wipe σ (own.map fun p : Str × Nat => p.2)) M.fp M.tn C 0 { s5 with heap := s5.heap.push { cls := .type "list", data := .seq #[.int 0 t] }, toks := tk } := fun t tk =>
    ⟨_, I6 t tk, M.T.keep _ _ _ M.st fun b _ o e => Heap.get?_push_of_some _ e, fun b hb => (upd_ne (neFp b hb)).trans (M.nf b hb).1.1, c0⟩
  have goes : ∀ s2, gxS (gxZ X (gxOne elt tg iter scope gpos) scope M.s4 H2 M.code M.fp M.it) [(M.a, M.go)] (wipe σ (own.map fun p : Str × Nat => p.2)) M.fp M.tn C 0 s2 → Seg (model X.prog X.w) X.A.in1.in1 (fun m a r b => r = .ok .next ∧ gxR Dn m a b) (gxY M.a M.go Yd) (n + 1) s2 (gx0 (gxOne elt tg iter scope gpos) 0 M.it (gxEnv X scope M.s4 M.code)) ((model X.prog X.w).den (gx0 (gxOne elt tg iter scope gpos) 0 M.it (gxEnv X scope M.s4 M.code))) [] s2 := fun s2 h2 => by
    refine gx_seg1 (Z := gxZ X (gxOne elt tg iter scope gpos) scope M.s4 H2 M.code M.fp M.it) (n := n) (C := C) (vs := own.map fun p : Str × Nat => p.2) (YH := fun i y H3 => ∃ kk, y = .int kk ∧ H3 Sb = some (.lst [.int (bs i)]) ∧ bs (i + 1) = bs i + kk ∧ C (i + 1) (upd H3 Sb (.lst [.int (bs (i + 1))]))) hc rfl (fun e s z => z) ok.co hpn M.T (pg _ _ _ _ _ hroom) (pe _ _ _ _ _ hroom) (gx_fpall M) (fun {σ2} e => by rw [← e, wipe_length]) (fun i H ci => ((step i H ci).2).imp (fun ⟨z1, z2, _⟩ => ⟨z1, z2⟩) fun z => z)
      (fun i y H s lt I st' nf ⟨kk, ey, hl, hb, cn⟩ => ?_) (fun s H I ci => ?_) s2 s2 h2
    · obtain ⟨h1, h2⟩ := step n H ci
      rcases h2 with ⟨_, _, q⟩ | ⟨lt, _⟩
      · exact ⟨by omega, H, gx_back M I, h1, q⟩
      · omega
    · have e : n - (n + 1 - (i + 1)) = i := by omega
      show ∃ kk, _
      rw [e]
      refine ⟨kk, ey, sumAt_of I hl, hb, fun t tk h' hp => ?_⟩
      rw [hb] at cn
      exact ⟨_, puts_inv I hl hp, M.T.keep _ _ _ st' fun b hb o e => puts_other hp (Ne.symm (neFp b hb)) e, fun b hb => (upd_ne (neFp b hb)).trans (nf b hb), cn⟩
  subst hSb
  refine call_sumI (M.gen _ (M.I5.pin _ hpn).1) (fun m b s1 => m ≤ n + 1 ∧ b = bs (n + 1 - m) ∧ SumAt s1.heap s5.heap.objs.size b ∧ GxLive X.prog X.w X.A.in1 M.a M.go Yd Dn M.gi m s1) (fun m b s1 hJ => ?_) (m := n + 1) fun t tk => ⟨Nat.le_refl _, by rw [Nat.sub_self, b0], ⟨0, t, Heap.get?_push_size _ rfl⟩, ⟨_, _, M.gs, gxS_ok hpn 0, h6 t tk, fun s2 h2 => ⟨rfl, goes s2 h2⟩⟩⟩
  obtain ⟨hm, eb, hba, live⟩ := hJ
  refine ⟨hba, wpAny_mono (gx_next (E := fun _ _ => False) (hr.in1).hd (hr.in1).depth M.gen (fun m s G h' ⟨e, H, I, hl, q⟩ hG hk => ⟨e, H, Inv.kept (s := { s with gens := G }) (t' := s.toks) (Inv.gens I hG) hk, hl, q⟩) (fun m y S s G so ⟨kk, e, hb, e2, q1⟩ hG => ⟨kk, e, hb, e2, fun t tk h' hp => so.gens _ G (q1 t tk h' hp) hG⟩) live) (fun r s2 hg => ?_) fun _ _ z => z⟩
  rcases hg with ⟨er, em, H, I, hl, q⟩ | ⟨v, y, S, er, rv, ⟨kk, ey, hbb, hbn, q1⟩, nx⟩
  · subst em
    have eb : b = bs n := eb
    subst eb
    exact ⟨sumAt_of I hl, .inl ⟨er, fun t => ⟨.int (bs n), _, I, ⟨t, rfl⟩, q⟩⟩⟩
  · subst ey
    obtain ⟨t, ev⟩ := rv
    subst ev
    have hm0 : 0 < m := (nx _ (by exact rfl) (q1 t s2.toks _ (.inl rfl))).1
    have ei : n - (m - 1) = n + 1 - m := by omega
    have ei2 : n + 1 - (m - 1) = n + 1 - m + 1 := by omega
    rw [ei] at hbb hbn q1
    rw [← eb] at hbb hbn q1
    exact ⟨hbb, .inr ⟨kk, t, er, m - 1, by omega, fun t' tk h' hp => ⟨by omega, by rw [ei2, hbn], hbb.puts hp, (nx _ (by exact rfl) (q1 t' tk h' hp)).2⟩⟩⟩
theorem pe_gxSum (hr : Room (k + 1) X.A) (hg : Gl X "sum") (hm : X.mg "sum" = none) (hb : bootBuiltins "sum" = some (.builtin "sum")) (TB : TabB X.base X.mg c P) (hcode : X.env.code = .ref c) (ok : GxOk X.N X.env.scope scope own) (hN : X.N.Nodup) (hc : X.calm = true) (hi : PI X tg iter wi)
    (pg : ∀ (A' : Around) (s : Shared) (H : Hp) (code : Value) (fp : List Addr), Room k A' → PG (gxX X A' s H (gxEnv X scope s code) fp) tg g) (pe : ∀ (A' : Around) (s : Shared) (H : Hp) (code : Value) (fp : List Addr), Room k A' → PE (gxX X A' s H (gxEnv X scope s code) fp) elt te)
    (hs : ∀ v, genFold iter X.env v = pure v) (he : starEach [gxOne elt tg iter scope gpos] X.env = (false, eval (gxOne elt tg iter scope gpos) X.env) :: starEach [] X.env := by rfl) :
    PE X (.Call (.Name "sum" p) [gxOne elt tg iter scope gpos] [] pos) (tGxS P wi g te (own.map fun p : Str × Nat => p.2)) := by
  refine ⟨fun pins s σ H Q I h => wpAny_Call_Name_kw (ld_blt I hg hm hb (PyProof.Rows.callWith_builtin1 ?_ he (by rfl)))⟩
  rw [he]
  show wpAny _ _ (spliced ((false, eval (gxOne elt tg iter scope gpos) X.env) :: backTo pos (starEach [] X.env))) _ _ s
  refine Calls.spliced_cons (gx_make (own := own) (R := fun J H2 => GxWantS J g te (wipe σ (own.map fun p : Str × Nat => p.2)) (own.map fun p : Str × Nat => p.2) Q H2) hr TB hcode ok hN hc hi hs I h fun J H2 s5 M hR => Calls.spliced_nil ?_)
  exact gx_runS hr hc ok M pg pe hR
end
def sumO {α : Type} (f : α → Int) (xs : List α) : Int := xs.foldl (fun b x => b + f x) 0
section
variable {ι : Type} {F : ι → Cx} {K : Fg} {B : Bs} {Γ : Gm} {O : List Own} {α : Type} {ra : Rp α} {e tg elt iter : Expr} {n : Str} {p pos gpos : Pos} {scope : Scope}
variable {P : Program} {w : World} {mg : Str → Option Value} {base : Heap} {k : Nat}
theorem one_of {K : Fg} {G : Hp} {o : HO} {b : Int} (h : (oLst rInt).rep K G o [b]) : o = .lst [.int b] := by
  obtain ⟨ws, e, h⟩ := h
  match ws, h with
  | [_], ⟨h1, _⟩ =>
    rw [e, show _ = V.int b from h1]
theorem one_rep {K : Fg} {G : Hp} (b : Int) : (oLst rInt).rep K G (.lst [.int b]) [b] := ⟨[.int b], rfl, rfl, trivial⟩
theorem d_gxSum [fam : Fam F P w K mg base (k + 1)] (own : List (Str × Nat)) (vs : List Nat) (P0 : Addr) (hP0 : P0 ∈ B.T) (tb : TabF F P0) (ok : ∀ i, GxOk (F i).N (F i).env.scope scope own) {Γ' : Gm} [hw : WipeG Γ vs Γ'] {js : List Nat} {f : α → Int} {Φ : Int → List Own → Prop} (hm : mg "sum" = none)
    (h : DI F K B Γ O tg iter ra fun xs O1 => O1 = O ∧ (∀ gg D ys x, x ∈ xs → DG (gxF F k scope) K (B.push gg) Γ' (⟨D, oLst rInt, ys⟩ :: O) tg ra x js fun Γ2 => DW (gxF F k scope) K (B.push gg) Γ2 (⟨D, oLst rInt, ys⟩ :: O) elt rInt fun y O3 => y = f x ∧ O3 = ⟨D, oLst rInt, ys⟩ :: O) ∧ Φ (sumO f xs) O)
    (hv : own.map (·.2) = vs := by rfl) (hjs : ∀ j ∈ js, j ∈ vs := by decide) (hg : ∀ i, Gl (F i) "sum" := by intro _; rfl) (hs : ∀ i v, genFold iter (F i).env v = pure v := by intro _ _; rfl)
    (he : ∀ i, starEach [gxOne elt tg iter scope gpos] (F i).env = (false, eval (gxOne elt tg iter scope gpos) (F i).env) :: starEach [] (F i).env := by intro _; rfl) :
    DW F K B Γ O (.Call (.Name "sum" p) [gxOne elt tg iter scope gpos] [] pos) rInt Φ := by
  intro σ G H W Q q
  refine ⟨tGxS P0 (WI F tg iter) (WG (gxF F k scope) tg) (WE (gxF F k scope) elt) (own.map fun p : Str × Nat => p.2), fun i => ?_, ?_⟩
  · obtain ⟨c, tb1, tb2⟩ := tb i
    exact pe_gxSum (fam.rm i) (hg i) (by rw [fam.mg i]; exact hm) bt_sum tb1 tb2 (ok i) (fam.nd i) (fam.cm i) (WI.pi i) (fun A' s H code fp hr => WG.pg (F := gxF F k scope) (i, ⟨A', hr⟩, s, H, code, fp)) (fun A' s H code fp hr => WE.pe (F := gxF F k scope) (i, ⟨A', hr⟩, s, H, code, fp)) (hs i) (he i)
  refine h σ G H W _ fun xs J O1 G1 H1 ⟨e1, hst, hΦ⟩ gv W1 ee => ?_
  subst e1
  refine ⟨(W1.tab P0 hP0).1, fun H2 tb Sb hSb => ?_⟩
  have W2 := W1.tabbed hP0 tb
  rw [show (own.map fun p : Str × Nat => p.2) = vs from hv]
  have hG : ∀ {G' : Hp}, Ex G1 G' → EnvR K G' σ Γ := fun e => W.env.mono (ee.trans e)
  refine ⟨xs.length, fun i => sumO f (xs.take i), fun i H => i ≤ xs.length ∧ ∃ G2, Ws K (B.push G1) Γ' (⟨Sb, oLst rInt, [sumO f (xs.take i)]⟩ :: O1) (wipe σ vs) G2 H, rfl, ⟨Nat.zero_le _, G1, (W2.base.env' (hw.env (hG (Ex.refl _)))).newOwn hSb (one_rep 0)⟩, ?_⟩
  rintro i H3 ⟨hi, G3, W3⟩
  have eb : Ex G1 G3 := W3.bs G1 List.mem_cons_self
  have hown : H3 Sb = some (.lst [.int (sumO f (xs.take i))]) := by
    obtain ⟨o, h1, h2⟩ := Ws.ownO (p := Sb) (r := oLst rInt) (x := [sumO f (xs.take i)]) (f := fun w => w :: O1) inferInstance W3
    rw [h1, one_of h2]
  refine ⟨hown, ?_⟩
  by_cases hlt : i < xs.length
  · refine .inr ⟨hlt, gv.go i G3 H3 hlt eb W3.sub, fun v H4 y => ?_⟩
    obtain ⟨x, G4, hx, s4, r4⟩ := gv.yld i G3 H3 v H4 hlt eb W3.sub y
    have hnext : sumO f (xs.take (i + 1)) = sumO f (xs.take i) + f x := by
      obtain ⟨h1, h2⟩ := List.getElem?_eq_some_iff.mp hx
      rw [List.take_succ_eq_append_getElem h1, h2]
      unfold sumO
      rw [List.foldl_append]
      rfl
    refine hst G1 Sb _ x (List.mem_of_getElem? hx) (wipe σ vs) G4 H4 v (W3.step s4) r4 _ fun Γ2 σ2 q2 W4 wp => ⟨(wp vs hjs).trans wipe_wipe, ?_⟩
    refine q2 σ2 G4 H4 W4 _ fun b O5 u G5 H5 ⟨eb5, eo⟩ W5 e5 r5 => ?_
    subst eo
    have e15 : Ex G1 G5 := W5.bs G1 List.mem_cons_self
    have hown5 : H5 Sb = some (.lst [.int (sumO f (xs.take i))]) := by
      obtain ⟨o, h1, h2⟩ := Ws.ownO (p := Sb) (r := oLst rInt) (x := [sumO f (xs.take i)]) (f := fun w => w :: O1) inferInstance W5
      rw [h1, one_of h2]
    refine ⟨b, r5, hown5, by show sumO f (xs.take (i + 1)) = sumO f (xs.take i) + b; rw [hnext, eb5], hlt, G5, ?_⟩
    exact (W5.env' (hw.env (hG e15))).mutO (r := oLst rInt) (x := [sumO f (xs.take i)]) (r' := oLst rInt) (f := fun w => w :: O1) (one_rep _)
  · obtain rfl : i = xs.length := by omega
    refine .inl ⟨rfl, gv.stop G3 H3 eb W3.sub, ?_⟩
    show Q (.int (sumO f (xs.take xs.length))) H3
    rw [List.take_length]
    have W6 := W3.perm (O' := O1) (fun w hw => List.mem_cons_of_mem _ hw) fun z => (List.nodup_cons.mp z).2
    exact q _ O1 (.int (sumO f xs)) G3 _ hΦ (W6.unbase.env' (hG eb)) (ee.trans eb) rfl
end
end Sk
set_option Elab.async false
set_option linter.all false
set_option maxRecDepth 100000
set_option maxHeartbeats 4100000
/-! Sk43: tuple * int. -/
namespace Sk
open PySem PySem.Spec PyProof.Rows L2 Evl
theorem tuple_mul1 (l : Addr) (items : Array Value) (n : Nat) (dd : Option Addr) (sl : Array (Option Value)) (u : Tok) :
    Meets (Builtin.«tuple.__mul__» ⟨[.ref l, .int 1 u], []⟩) (fun _ R s => s.heap.get? l = some { cls := .type "tuple", dict := dd, data := .seq items n, slots := sl } ∧ R (.ok (.ret (Value.ref l))) s) :=
  .of_wp fun prog w A R s h => by
    obtain ⟨hp, g, d, tk, os⟩ := s
    obtain ⟨hl, h⟩ := h
    have f1 := AutoSeq1.idx_int
    have c1 : (items.isEmpty || (1 : Int) == 1) = true := by simp
    wp_walk using wpAny_loadPart' hl
    repeat (first
      | (refine wpAny_ite_false (decide_eq_false (by decide)) ?_; wp_walk using wpAny_loadPart' hl)
      | (refine wpAny_ite_true (by exact decide_eq_true c1) ?_; wp_walk using wpAny_loadPart' hl)
      | (rw [c1]; wp_walk using wpAny_loadPart' hl))
    exact ⟨_, rfl, h⟩
def rRep1 (K : PySem.W.Frag) : R2 := fun x y H Q => ∃ l xs, x = .ref l ∧ y = .int 1 ∧ SqT K H l xs ∧ Q (.ref l) H
section
variable {X : Cx}
theorem op_rep1 : OpR X (binaryOp .Mult) (rRep1 X.K) := by
  intro pins s σ H x y v u Q I rx ry h
  obtain ⟨l, xs, rfl, rfl, hT, q⟩ := h
  cases rx
  obtain ⟨t, rfl⟩ := ry
  obtain ⟨its, r, ⟨⟨cls, dd, data, sl⟩, ho, hc, n, hd⟩, hs⟩ := I.tuple hT
  simp only at hc hd
  subst hc hd
  refine wpAny_binaryOp_repeat_ref (T := "tuple") (U := "int") (by decide) ⟨_, ho, rfl⟩ (fun s' => typeIs_int s' 1 t) noFill_tuple_mul F.fills_int_mul F.slot_int_rmul repeat_tuple F.slot_int_index.lookup
    (call_meets F.slot_int_rmul (typeIs_int s 1 t) F.entry_int_rmul (F.args_int_rmul_2 _ _) (int_rmul_tuple 1 t l its.toArray n dd sl)
      ⟨ho, rfl, ⟨_, ho, rfl⟩, call_meets F.slot_tuple_mul ⟨_, ho, rfl⟩ F.entry_tuple_mul (F.args_tuple_mul_2 _ _) (tuple_mul1 l its.toArray n dd sl t) ⟨ho, ?_⟩⟩)
  exact ⟨.ref l, _, I, rfl, q⟩
end
section
variable {ι : Type} {F : ι → Cx} {K : Fg} {B : Bs} {Γ : Gm} {O : List Own} {α β : Type} {ra : Rp α} {rb : Rp β} {e : Expr}
theorem All2.rep {p : V → β → Prop} {vs : List V} {xs : List β} (h : All2 p vs xs) : ∀ n : Nat, All2 p (List.replicate n vs).flatten (List.replicate n xs).flatten
  | 0 => trivial
  | n + 1 => by
    rw [List.replicate_succ, List.replicate_succ, List.flatten_cons, List.flatten_cons]
    exact h.append (h.rep n)
theorem o_mulT {xs : List β} {n : Int} {Φ : List β → List Own → Prop} (hx : xs ≠ []) (h1 : 1 ≤ n) (hn : n ≤ 1000) (hz : xs.length ≤ 1000) (kk : Φ (List.replicate n.toNat xs).flatten O) (hK : ∀ j, (F j).K = K := by intro _; rfl) : OW F K B Γ O (binaryOp .Mult) (rTpv rb) rInt xs n (rTpv rb) Φ := by
  intro σ G H v u W ⟨c, vs, a1, a2, a3⟩ ru Q q
  have n1 : vs ≠ [] := fun e => by
    have := a3.length
    rw [e] at this
    exact hx (List.eq_nil_of_length_eq_zero this.symm)
  have ru : u = .int n := ru
  subst ru
  by_cases e1 : n = 1
  · subst e1
    have e2 : (List.replicate (1 : Int).toNat xs).flatten = xs := by simp
    rw [e2] at kk
    exact ⟨rRep1 K, fun j => by rw [← hK j]; exact op_rep1, c, vs, a1, rfl, ex_t W.sub a2, q xs O _ G H kk W (Ex.refl _) ⟨c, vs, rfl, a2, a3⟩⟩
  · refine ⟨rRepT K, fun j => by rw [← hK j]; exact op_repT, c, n, vs, a1, rfl, ex_t W.sub a2, n1, by omega, hn, by rw [a3.length]; exact hz, fun p hp => ?_⟩
    have s : Stp B.T [] G H (upd G p (.tup (List.replicate n.toNat vs).flatten)) (upd H p (.tup (List.replicate n.toNat vs).flatten)) := Stp.new W.sub hp
    exact q _ O _ _ _ kk (W.step s) s.g ⟨p, _, rfl, SqT.of upd_same, (a3.rep n.toNat).mono fun _ _ z => rb.mono s.g z⟩
end
end Sk
set_option Elab.async false
set_option linter.all false
set_option maxRecDepth 100000
set_option maxHeartbeats 4100000
/-! Sk44: own exceptions told by a Hook. -/
namespace Sk
open PySem L2 Evl
/-- an error of the class at S is what «except S» names -/
theorem exm_self {K : PySem.W.Frag} {S : Addr} (h1 : PySem.W.subIn K (.ref S) (.type "BaseException") = some true) (h2 : PySem.W.isClsIn K S = true) (h3 : PySem.W.typeIn K (.ref S) = some (.type "type")) (h4 : PySem.W.subIn K (.ref S) (.ref S) = some true) :
    PySem.W.exmOne K (.ref S) (.ref S) = some true := by
  have e1 : (PySem.W.subIn K (.ref S) (.type "BaseException") == some true) = true := by rw [h1] <;> rfl
  have e2 : ((PySem.W.clsIn K S).isSome && PySem.W.typeIn K (.ref S) == some (.type "type")) = true := by
    have h2' : (PySem.W.clsIn K S).isSome = true := h2
    rw [h2', h3] <;> rfl
  show (if (PySem.W.subIn K (.ref S) (.type "BaseException") == some true) = true then (if ((PySem.W.clsIn K S).isSome && PySem.W.typeIn K (.ref S) == some (.type "type")) = true then PySem.W.subIn K (.ref S) (.ref S) else none) else none) = some true
  rw [if_pos e1, if_pos e2]
  exact h4
/-- an own exception class: its name, its __init__, its fields -/
structure XcD where
  n : Str
  qual : Str
  st : Stmt
  fs : List Str
abbrev FnB : Type := Option (Str × Str × Arguments × FuncBody × Scope × Addr × Value × Addr)
abbrev XcD.f (K : Fg) (x : XcD) : Addr := He.fAd K (x.n, some "__init__")
abbrev XcD.c (K : Fg) (x : XcD) : Addr := He.ga K x.n
def fnB (K : Fg) (x : XcD) : FnB := match K.lookup (x.f K) with
  | some ⟨_, _, .func fd, _⟩ => some (fd.name, fd.qualname, fd.params, fd.body, fd.scope, fd.globals, fd.defaults, fd.builtins)
  | _ => none
def XcD.val (x : XcD) : FnB := some ("__init__", x.qual, defArgs x.st, .stmts (defBody x.st), defScope x.st, mainGlobals, .none, builtinsNs)
def clB (K : Fg) (C : Addr) : Bool := match K.lookup C with
  | some ⟨.type "type", _, .cls cd, sl⟩ => (match cd.mro, sl.toList with
    | .ref C' :: bm, [_, _, _, _, some (.builtin n), _] => C' == C && (n == "ValueError.__new__" && (!cd.hasDel && (cd.hasDict && PySem.HandSPX.refsVE bm)))
    | _, _ => false)
  | _ => false
def coB (K : Fg) (file : Str) (v : Value) : Bool := match v with
  | .ref cda => (match K.lookup cda with
    | some ⟨_, _, .fields vs, _⟩ => (match (vs[2]? : Option Value) with
      | some (Value.str f _) => file == f
      | _ => false)
    | _ => false)
  | _ => false
def ceB (K : Fg) (C : Addr) (cl : List (Str × Addr)) : Bool := match cl with
  | [(x, cc)] => decide (x = "__class__") && (match K.lookup cc with
    | some ⟨_, _, .cell (some (.ref C')), _⟩ => C' == C
    | _ => false)
  | _ => false
def fdB (K : Fg) (file : Str) (x : XcD) : Bool := match K.lookup (x.f K) with
  | some ⟨_, _, .func fd, _⟩ => PySem.W.codeIn K fd.code x.qual && (coB K file fd.code && ceB K (x.c K) fd.closure)
  | _ => false
theorem clB_ok {K : Fg} {C : Addr} (q : clB K C = true) : ∃ nm q N bs bm sn sub ab col dd k0 k1 k2 k3 k5, K.lookup C = some (excClassObj nm q C N bs bm true sn sub ab col dd k0 k1 k2 k3 k5 "ValueError.__new__") ∧ PySem.HandSPX.refsVE bm = true := by
  unfold clB at q
  split at q
  · rename_i dd cd sl ho
    split at q
    · rename_i C' bm k0 k1 k2 k3 n k5 hm hs
      simp only [Bool.and_eq_true, beq_iff_eq, Bool.not_eq_true'] at q
      obtain ⟨rfl, rfl, hdel, hd1, ht⟩ := q
      obtain ⟨nm, bs, mro, ns, qn, hd, sn, sub, ab, col, del⟩ := cd
      dsimp only at hm hdel hd1
      subst hm hdel hd1
      have hsl : sl = #[k0, k1, k2, k3, some (.builtin "ValueError.__new__"), k5] := by
        obtain ⟨l⟩ := sl
        simp only at hs
        rw [hs]
      subst hsl
      exact ⟨nm, qn, ns, bs, bm, sn, sub, ab, col, dd, k0, k1, k2, k3, k5, ho, ht⟩
    · cases q
  · cases q
def XcD.ok (K : Fg) (file : Str) (x : XcD) : Bool :=
  clB K (x.c K) && (decide (PySem.W.findIn K (.ref (x.c K)) "__setattr__" = some (some (.builtin "object.__setattr__"))) && (decide (PySem.W.subIn K (.ref (x.c K)) (.type "BaseException") = some true) && (decide (PySem.W.typeIn K (.ref (x.c K)) = some (.type "type")) && (PySem.W.keepIn K (.ref (x.c K)) &&
  (decide (PySem.W.nsIn K mainGlobals x.n = some (some (.ref (x.c K)))) && (decide (PySem.W.findIn K (.ref (x.c K)) "__init__" = some (some (.ref (x.f K)))) && (decide (PySem.W.typeIn K (.ref (x.f K)) = some (.type "function")) && (fdB K file x &&
  (decide (PySem.W.mroIn K (x.c K) (.ref (x.c K)) = some true) && (decide (PySem.W.ks_superIn K (x.c K) (x.c K) "__init__" = some (some (.builtin "ValueError.__init__"))) && (decide (PySem.W.subIn K (.ref (x.c K)) (.type "ValueError") = some true) && (decide (PySem.W.nsIn K cStatics "thirdparty.any" = some none) && (PySem.W.isClsIn K (x.c K) &&
  (decide (PySem.W.subIn K (.ref (x.c K)) (.ref (x.c K)) = some true) && (xfB K (x.c K) && x.fs.all fun f => decide (PySem.W.findIn K (.ref (x.c K)) f = some none))))))))))))))))
theorem xd_of {K : Fg} {h : Heap} {mg : Str → Option Value} (X : K.In h) (G : h.Ns mainGlobals mg) (pm : Module) (x : XcD) (e : fnB K x = x.val) (c : x.ok K pm.file = true) (hsup : mg "super" = none) (top : (pm.scope.names.lookup ("super" : Str)).isSome = false)
    (hb : ∀ kV dc pmV an cda ct cc, Binds K (PySem.W.fnX "__init__" x.qual (defArgs x.st) (defBody x.st) (defScope x.st) [("__class__", cc)] .none kV dc pmV an (.ref cda) ct) ("self" :: x.fs) []) : Nonempty (Xd pm K mg x.n (x.c K) x.qual x.st x.fs) := by
  unfold XcD.ok at c
  simp only [Bool.and_eq_true, decide_eq_true_eq] at c
  obtain ⟨c1, c2, c3, c4, c5, c6, c7, c8, c9, c10, c11, c12, c13, c14, c15, c16, c17⟩ := c
  unfold fdB at c9
  unfold fnB XcD.val at e
  split at e
  · rename_i oc od fd osl hl
    rw [hl] at c9
    dsimp only at c9
    simp only [Bool.and_eq_true] at c9
    obtain ⟨d1, d2, d3⟩ := c9
    obtain ⟨n1, n2, n3, n4, n5, n6, n7, n8, n9, n10, n11, n12, n13, n14, n15⟩ := fd
    simp only [Option.some.injEq, Prod.mk.injEq] at e
    obtain ⟨h1, h2, h3, h4, h5, h6, h7, h8⟩ := e
    dsimp only at d1 d2 d3
    subst h1 h2 h3 h4 h5 h6 h7 h8
    unfold coB at d2
    split at d2
    · rename_i cda
      split at d2
      · rename_i ccl cdd vs ccs hcd
        split at d2
        · rename_i file tf hv
          unfold ceB at d3
          split at d3
          · rename_i xn cc
            simp only [Bool.and_eq_true, decide_eq_true_eq] at d3
            obtain ⟨rfl, d3⟩ := d3
            split at d3
            · rename_i cl cld C' csl hcc
              have eC := beq_iff_eq.mp d3
              subst eC
              exact ⟨⟨x.f K, _, ⟨⟨clB_ok c1, c2, c3, c4, c5⟩, ⟨oc, od, n9, n10, n11, n12, cda, n14, osl, cc, rfl, hl, d1, ⟨ccl, cdd, vs, ccs, file, tf, hcd, hv, d2⟩, cl, cld, csl, hcc⟩, c10, hsup, top, c11, c12, c13⟩, PySem.W.mg_of X G c6, c7, c8, hb _ _ _ _ _ _ _, fun f hf => of_decide_eq_true (List.all_eq_true.mp c17 f hf), exm_self c3 c14 c4 c15, xfB_ok c16⟩⟩
            · cases d3
          · cases d3
        · cases d2
      · cases d2
    · cases d2
  · cases e
end Sk
set_option Elab.async false
set_option linter.all false
set_option maxRecDepth 100000
set_option maxHeartbeats 4100000
/-! Sk45: dict(d); d != e of dicts of deep data; constants that are tuples. -/
namespace Sk
open PySem PySem.Spec PyProof.Rows L2 Evl
/-! ### constants -/
/-- a constant as a def's text has it -/
inductive CD where
  | int (i : Int)
  | str (x : Str)
  | tup (l : List CD)
mutual
def cdB (K : Fg) : CD → Value → Bool
  | .int i, .int j _ => decide (j = i)
  | .str x, .str y _ => decide (y = x)
  | .tup l, .ref a => (match K.lookup a with
    | some ⟨.type c, _, .seq its _, _⟩ => decide (c = "tuple") && (decide (its.size ≤ sizeLine) && cdsB K l its.toList)
    | _ => false)
  | _, _ => false
def cdsB (K : Fg) : List CD → List Value → Bool
  | [], [] => true
  | d :: ds, v :: vs => cdB K d v && cdsB K ds vs
  | _, _ => false
end
def cdOf : Value → V
  | .int i _ => .int i
  | .str x _ => .str x
  | .ref a => .ref a
  | _ => .non
theorem cd_rel {K : Fg} : ∀ {d : CD} {u : Value}, cdB K d u = true → L2.RelV (cdOf u) u
  | .int i, u, h => by
    cases u with
    | int j t => exact ⟨t, rfl⟩
    | _ => simp [cdB] at h
  | .str x, u, h => by
    cases u with
    | str y t => exact ⟨t, rfl⟩
    | _ => simp [cdB] at h
  | .tup l, u, h => by
    cases u with
    | ref a => exact rfl
    | _ => simp [cdB] at h
theorem cds_rel {K : Fg} : ∀ {ds : List CD} {us : List Value}, cdsB K ds us = true → Vals (us.map cdOf) us
  | [], [], _ => .nil
  | d :: ds, u :: us, h => by
    unfold cdsB at h
    obtain ⟨h1, h2⟩ := Bool.and_eq_true_iff.mp h
    exact .cons (cd_rel h1) (cds_rel h2)
  | [], _ :: _, h => by simp [cdsB] at h
  | _ :: _, [], h => by simp [cdsB] at h
theorem cd_tup {K : Fg} {l : List CD} {u : Value} (h : cdB K (.tup l) u = true) : ∃ a us, cdOf u = .ref a ∧ (∀ H, SqT K H a (us.map cdOf)) ∧ cdsB K l us = true := by
  cases u with
  | ref a =>
    unfold cdB at h
    split at h
    · rename_i c od its n sl hl
      simp only [Bool.and_eq_true, decide_eq_true_eq] at h
      obtain ⟨h1, h2, h3⟩ := h
      refine ⟨a, its.toList, rfl, fun H => .inr ⟨_, its, n, hl, congrArg Value.type h1, rfl, h2, cds_rel h3⟩, h3⟩
    · cases h
  | _ => simp [cdB] at h
section
variable {K : Fg} {α β : Type}
theorem cr_int {i : Int} {u : Value} {G : Hp} (h : cdB K (.int i) u = true) : rInt.rep K G (cdOf u) i := by
  cases u with
  | int j t =>
    have e : j = i := of_decide_eq_true h
    subst e
    exact rfl
  | _ => simp [cdB] at h
/-- what is told of one item; of a row of items -/
abbrev CrOk (K : Fg) (r : Rp α) (f : α → CD) : Prop := ∀ x u G, cdB K (f x) u = true → r.rep K G (cdOf u) x
theorem cr_all {r : Rp α} {f : α → CD} (h : CrOk K r f) {G : Hp} : ∀ {xs : List α} {us : List Value}, cdsB K (xs.map f) us = true → All2 (r.rep K G) (us.map cdOf) xs
  | [], [], _ => trivial
  | x :: xs, u :: us, e => by
    obtain ⟨e1, e2⟩ := Bool.and_eq_true_iff.mp (show (cdB K (f x) u && cdsB K (xs.map f) us) = true from e)
    exact ⟨h _ _ _ e1, cr_all h e2⟩
  | [], _ :: _, e => by cases e
  | _ :: _, [], e => by cases e
theorem cr_tpv {r : Rp α} {f : α → CD} (h : CrOk K r f) : CrOk K (rTpv r) fun xs => .tup (xs.map f) := fun xs u G e => by
  obtain ⟨a, us, e1, e2, e3⟩ := cd_tup e
  exact ⟨a, _, e1, e2 G, cr_all h e3⟩
/-- the module's name is this constant -/
def kcB (K : Fg) (n : Str) (d : CD) : Bool := match PySem.W.nsIn K mainGlobals n with
  | some (some u) => cdB K d u
  | _ => false
theorem kc_ok {h : Heap} {mg : Str → Option Value} (X : K.In h) (G : h.Ns mainGlobals mg) {n : Str} {d : CD} (c : kcB K n d = true) : ∃ u, mg n = some u ∧ L2.RelV (cdOf u) u ∧ cdB K d u = true := by
  unfold kcB at c
  split at c
  · rename_i u e
    exact ⟨u, PySem.W.mg_of X G e, cd_rel c, c⟩
  · cases c
end
end Sk
set_option Elab.async false
set_option linter.all false
set_option maxRecDepth 100000
set_option maxHeartbeats 4100000
/-! Sk46: a def that makes generators and may raise. -/
namespace Sk
open PySem PySem.Spec PyProof.Rows L2 Evl
open GxR (TabB TabG Tabbed)
end Sk
set_option Elab.async false
set_option linter.all false
set_option maxRecDepth 100000
set_option maxHeartbeats 4100000
/-! Sk47: min, max of a tuple of ints. -/
namespace Sk
open PySem PySem.Spec PyProof.Rows L2 Evl
end Sk
set_option Elab.async false
set_option linter.all false
set_option maxRecDepth 100000
set_option maxHeartbeats 4100000
/-! Sk48: xs.reverse() of an own list. -/
namespace Sk
open PySem L2 Evl
section
variable {ι : Type} {F : ι → Cx} {K : Fg} {B : Bs} {Γ : Gm} {O : List Own} {α : Type} {ra : Rp α} {o : Expr} {pos apos : Pos} {P : Program} {w : World} {mg : Str → Option Value} {base : Heap} {k : Nat}
theorem All2.reverse {p : V → α → Prop} : ∀ {vs : List V} {xs : List α}, All2 p vs xs → All2 p vs.reverse xs.reverse
  | [], [], _ => trivial
  | v :: vs, x :: xs, ⟨h1, h2⟩ => by
    rw [List.reverse_cons, List.reverse_cons]
    exact (All2.reverse h2).append ⟨h1, trivial⟩
  | [], _ :: _, z => z.elim
  | _ :: _, [], z => z.elim
end
end Sk
set_option Elab.async false
set_option linter.all false
set_option maxRecDepth 100000
set_option maxHeartbeats 4100000
/-! Sk49: x < y and sorted(..) of data of any depth; max(t, default=n). -/
namespace Sk
open PySem PySem.Spec PyProof.Rows L2 Evl
open PySem.W (alike alikeAll dataLt dataLe keyToks AllAlike Sortable EachIs rcLt_alike sorted_data)
/-! ### raw rules -/
def rLtD (K : PySem.W.Frag) : R2 := fun x y H Q => ∃ d e, Dp K H x d ∧ Dp K H y e ∧ alike d e = true ∧ d ≠ .none ∧ d.depth ≤ 60 ∧ Q (.bl (dataLt d e)) H
theorem op_ltD {X : Cx} (hu : X.A.units + 65 < cLine) : OpR X (compareOp .Lt) (rLtD X.K) := by
  intro pins s σ H x y v u Q I rx ry h
  obtain ⟨d, e, hd, he, ha, hn, hdep, q⟩ := h
  obtain ⟨as, r1⟩ := Dp.reads I d x v hd rx
  obtain ⟨bs, r2⟩ := Dp.reads I e y u he ry
  have z : wpAny (model X.prog X.w) X.A (compareOp .Lt v u) (EP X pins σ Q) X.xe s := rcLt_alike d e X.A s v u as bs r1 r2 ha hn (by omega) X.prog X.w X.xe (EP X pins σ Q) ⟨.bl _, H, I, rfl, q⟩
  exact z
abbrev VD := V × PyData
def rSortD (K : PySem.W.Frag) : List V → Hp → VK → Prop := fun vs H Q => ∃ (a : Addr) (bs : List VD), vs = [V.ref a] ∧ SqL K H a (bs.map (·.1)) ∧ (∀ b ∈ bs, Dp K H b.1 b.2) ∧ AllAlike (bs.map (·.2)) ∧ Sortable (bs.map (·.2)) ∧ (∀ b ∈ bs, b.2.depth ≤ 60) ∧
  ∀ p, H p = none → Q (.ref p) (upd H p (.lst ((bs.mergeSort (dataLe false (·.2))).map (·.1))))
theorem vals_each : ∀ {bs : List VD} {us : List Value}, Vals (bs.map (·.1)) us → EachIs (fun u b => RelV b.1 u ∧ b ∈ bs) us bs
  | [], _, h => by
    have h' : Vals [] _ := h
    cases h'
    exact .nil
  | b :: bs, _, h => by
    have h' : Vals (b.1 :: bs.map (·.1)) _ := h
    cases h' with
    | cons h1 h2 => exact .cons ⟨h1, List.mem_cons_self⟩ ((vals_each h2).mono fun _ _ z => ⟨z.1, List.mem_cons_of_mem _ z.2⟩)
theorem each_vals : ∀ {bs : List VD} {us : List Value}, EachIs (fun u b => RelV b.1 u) us bs → Vals (bs.map (·.1)) us
  | _, _, .nil => .nil
  | _, _, .cons h t => .cons h (each_vals t)
theorem cr_sortD {X : Cx} (hu : X.A.units + 65 < cLine) : CallR X (.builtin "sorted") (rSortD X.K) := by
  intro pins s σ H vs us Q I r h
  obtain ⟨a, bs, rfl, hs, hd, hal, hk, hdep, q⟩ := h
  obtain ⟨its, rv, hl, hz⟩ := I.list hs
  obtain ⟨u, rfl, ru⟩ := vals1 r
  obtain rfl : u = Value.ref a := ru
  have e0 := vals_each rv
  have e : EachIs (fun u b => RelV b.1 u) its bs := e0.mono fun _ _ z => z.1
  have er : EachIs (fun v (b : VD) => ∃ as, Reads s.heap v b.2 as) its bs := e0.mono fun v b z => Dp.reads I b.2 b.1 v (hd b z.2) z.1
  have hlen := e.length
  rw [List.length_map] at hz
  refine sorted_data (enc := fun b : VD => b.2) hl.isList e er hal hk (by omega) (fun b hb => by have := hdep b hb; omega) fun out ho eo => ?_
  obtain ⟨n, hn⟩ := sortedAll_at s.heap its out.toArray
  refine ⟨.ref (s.heap.objs.size + 1), upd H (s.heap.objs.size + 1) (.lst ((bs.mergeSort (dataLe false (·.2))).map (·.1))), I.laid (t' := s.toks) (fun _ _ => sortedAll_old) (Nat.le_succ _) ⟨?_, out, n, each_vals eo, hn⟩, rfl, q _ (I.hok.fresh (Nat.le_succ _))⟩
  rw [List.length_map, List.length_mergeSort]
  omega
def rMaxDT (K : PySem.W.Frag) : List V → List V → Hp → VK → Prop := fun vs zs H Q => ∃ (a : Addr) (ns : List Int) (d : Int), vs = [V.ref a] ∧ zs = [V.int d] ∧ SqT K H a (ns.map V.int) ∧ ∀ m, (ns = [] → m = d) → (ns ≠ [] → m ∈ ns ∧ ∀ y ∈ ns, y ≤ m) → Q (.int m) H
theorem foldl_max_mem : ∀ (ns : List Int) (n : Int), ns.foldl max n ∈ n :: ns ∧ ∀ y ∈ n :: ns, y ≤ ns.foldl max n
  | [], n => ⟨List.mem_cons_self, fun y hy => by rw [List.mem_singleton.mp hy]; exact Int.le_refl _⟩
  | m :: ns, n => by
    obtain ⟨h1, h2⟩ := foldl_max_mem ns (max n m)
    refine ⟨?_, fun y hy => ?_⟩
    · rcases List.mem_cons.mp h1 with e | e
      · show ns.foldl max (max n m) ∈ _
        rw [e]
        rcases Int.le_total n m with z | z
        · rw [Int.max_eq_right z]; exact List.mem_cons_of_mem _ List.mem_cons_self
        · rw [Int.max_eq_left z]; exact List.mem_cons_self
      · exact List.mem_cons_of_mem _ (List.mem_cons_of_mem _ e)
    · have h3 := h2 _ List.mem_cons_self
      show y ≤ ns.foldl max (max n m)
      rcases List.mem_cons.mp hy with e | e
      · rw [e]; omega
      · rcases List.mem_cons.mp e with e | e
        · rw [e]; omega
        · exact h2 y (List.mem_cons_of_mem _ e)
theorem cr_maxDT {X : Cx} (hc : X.calm = true) (hu : X.A.units + 65 < cLine) : CallRK X (.builtin "max") [Str.ofString "default"] (rMaxDT X.K) := by
  intro pins s σ H vs zs us ws Q I r rz h
  obtain ⟨a, ns, d, rfl, rfl, hs, q⟩ := h
  obtain ⟨its, rv, hl, hzz⟩ := I.tuple hs
  rw [Vals.ref1 r]
  obtain ⟨u, rfl, ru⟩ := vals1 rz
  obtain ⟨t, rfl⟩ := ru
  have hr : ∃ as, ReadsAll s.heap its (ns.map PyData.int) as := by
    refine Dp.readsAll I (ns.map .int) _ its ?_ rv
    clear q hs rv hzz
    induction ns with
    | nil => exact .nil
    | cons n ns ih => exact .cons (.int n) ih
  obtain ⟨as, hr⟩ := hr
  have ha : PySem.W.AlikeAll (ns.map PyData.int) := ⟨fun d hd d' hd' => by
    obtain ⟨b, _, rfl⟩ := List.mem_map.mp hd
    obtain ⟨b', _, rfl⟩ := List.mem_map.mp hd'
    simp [alike], fun d hd => by
    obtain ⟨b, _, rfl⟩ := List.mem_map.mp hd
    exact nofun⟩
  refine PySem.W.max_tuple_default (xs := ns.map PyData.int) (I.ok.hd hc) hl hr ha (by rw [PySem.W.depth_ints]; omega) (fun h0 h' tk hk => ?_) fun y ys i v h' tk bs ex hv hr' hk => ?_
  · refine ⟨.int d, H, I.kept hk, ⟨_, rfl⟩, q d (fun _ => rfl) fun hne => ?_⟩
    cases ns with
    | nil => exact absurd rfl hne
    | cons => exact absurd h0 (by simp)
  · cases ns with
    | nil => exact absurd ex (by simp)
    | cons n ns =>
      obtain ⟨e1, e2⟩ := List.cons.inj ex
      subst e1 e2
      rw [PySem.W.maxD_ints] at hr'
      obtain ⟨h1, h2⟩ := foldl_max_mem ns n
      cases hr' with
      | int _ t' => exact ⟨.int _, H, I.kept hk, ⟨_, rfl⟩, q _ (fun z => absurd z (by simp)) fun _ => ⟨h1, h2⟩⟩
/-! ### typed -/
class Alk {α : Type} (r : Rp α) (enc : outParam (α → PyData)) : Prop where
  al : ∀ x y, alike (enc x) (enc y) = true
  nn : ∀ x, enc x ≠ .none
class AlkF {α : Type} (f : RpF α) (enc : outParam (α → List PyData)) : Prop where
  al : ∀ x y, alikeAll (enc x) (enc y) = true
section
variable {α β γ : Type}
theorem al_map {r : Rp α} {enc : α → PyData} (hr : Alk r enc) : ∀ xs ys : List α, alikeAll (xs.map enc) (ys.map enc) = true
  | [], _ => by simp [alikeAll]
  | _ :: _, [] => by simp [alikeAll]
  | x :: xs, y :: ys => by
    rw [List.map_cons, List.map_cons, alikeAll, hr.al x y, al_map hr xs ys]
    rfl
instance alkInt : Alk rInt PyData.int := ⟨fun _ _ => by simp [alike], fun _ h => nomatch h⟩
instance alkStr : Alk rStr PyData.str := ⟨fun _ _ => by simp [alike], fun _ h => nomatch h⟩
instance alkTpv {r : Rp α} {enc : α → PyData} [hr : Alk r enc] : Alk (rTpv r) (fun xs => PyData.tuple (xs.map enc)) := ⟨fun x y => by simp only [alike]; exact al_map hr x y, fun _ h => nomatch h⟩
instance alkLst {r : Rp α} {enc : α → PyData} [hr : Alk r enc] : Alk (rLst r) (fun xs => PyData.list (xs.map enc)) := ⟨fun x y => by simp only [alike]; exact al_map hr x y, fun _ h => nomatch h⟩
instance alkOne {r : Rp α} {enc : α → PyData} [hr : Alk r enc] : AlkF (fOne r) (fun x => [enc x]) := ⟨fun x y => by rw [alikeAll, hr.al x y]; simp [alikeAll]⟩
instance alkCons {r : Rp α} {enc : α → PyData} {f : RpF β} {enc' : β → List PyData} [hr : Alk r enc] [hf : AlkF f enc'] : AlkF (fCons r f) (fun x => enc x.1 :: enc' x.2) := ⟨fun x y => by rw [alikeAll, hr.al x.1 y.1, hf.al x.2 y.2]; rfl⟩
instance alkTup {f : RpF β} {enc : β → List PyData} [hf : AlkF f enc] : Alk (rTup f) (fun x => PyData.tuple (enc x)) := ⟨fun x y => by simp only [alike]; exact hf.al x y, fun _ h => nomatch h⟩
variable {ι : Type} {F : ι → Cx} {K : Fg} {B : Bs} {Γ : Gm} {O : List Own} {ra : Rp α} {rb : Rp β} {e e2 : Expr} {es : List Expr} {pos p kp : Pos} {n : Str}
variable {P : Program} {w : World} {mg : Str → Option Value} {base : Heap} {k : Nat}
theorem o_ltD [fam : Fam F P w K mg base k] {enc : α → PyData} {n : Nat} {good : α → Prop} [hr : Dat ra enc n good] [ha : Alk ra enc] {x y : α} {Ψ : Bool → List Own → Prop} (kk : Ψ (dataLt (enc x) (enc y)) O) (hn : n ≤ 60 := by decide) : OW F K B Γ O (compareOp .Lt) ra ra x y rBool Ψ := fun σ G H v w W rv rw Q q =>
  ⟨rLtD K, fun j => by rw [← fam.ka j]; exact op_ltD (by have := (fam.rm j).un; omega), enc x, enc y, hr.dp W.sub rv, hr.dp W.sub rw, ha.al x y, ha.nn x, Nat.le_trans (hr.dep x) hn, q _ O _ G H kk W (Ex.refl _) rfl⟩
theorem each_back {r : Rp β} {enc : β → PyData} {K : Fg} {G : Hp} : ∀ {bs : List VD} {xs : List β}, EachIs (fun (b : VD) x => b.2 = enc x ∧ r.rep K G b.1 x) bs xs → All2 (r.rep K G) (bs.map (·.1)) xs
  | _, _, .nil => trivial
  | _, _, .cons h t => ⟨h.2, each_back t⟩
theorem each_make {r : Rp β} {enc : β → PyData} {K : Fg} {G : Hp} : ∀ {ws : List V} {xs : List β}, All2 (r.rep K G) ws xs → EachIs (fun (b : VD) x => b.2 = enc x ∧ r.rep K G b.1 x) (ws.zip (xs.map enc)) xs ∧ (ws.zip (xs.map enc)).map (·.1) = ws ∧ (ws.zip (xs.map enc)).map (·.2) = xs.map enc
  | [], [], _ => ⟨.nil, rfl, rfl⟩
  | w :: ws, x :: xs, h => by
    obtain ⟨h1, h2, h3⟩ := each_make (ws := ws) (xs := xs) h.2
    refine ⟨.cons ⟨rfl, h.1⟩ h1, ?_, ?_⟩
    · rw [List.map_cons, List.zip_cons_cons, List.map_cons, h2]
    · rw [List.map_cons, List.zip_cons_cons, List.map_cons, h3]
  | [], _ :: _, z => z.elim
  | _ :: _, [], z => z.elim
/-- sorted(xs) of data: a new list -/
theorem c_sortX [fam : Fam F P w K mg base k] {xs : List β} {x : α} [hl : LsR O ra x rb xs] {enc : β → PyData} {n : Nat} {good : β → Prop} [hr : Dat rb enc n good] [ha : Alk rb enc] {Φ : List β → List Own → Prop} (kk : Φ (xs.mergeSort (dataLe false enc)) O)
    (hs : (∀ x, ∃ y r, enc x = .tuple (y :: r)) ∨ (∀ x, enc x ≠ .none ∧ ∀ xs, enc x ≠ .tuple xs) := by first | exact .inl fun _ => ⟨_, _, rfl⟩ | exact .inr fun _ => ⟨nofun, nofun⟩) (hn : n ≤ 60 := by decide) : CW F K B Γ O (.builtin "sorted") (fOne ra) x (rLst rb) Φ := fun σ G H vs W ⟨v, e, rv⟩ Q q => by
  obtain ⟨c, ws, h1, h2, h3⟩ := hl.get W rv
  obtain ⟨m1, m2, m3⟩ := each_make (enc := enc) h3
  have hx : ∀ b ∈ ws.zip (xs.map enc), ∃ x, b.2 = enc x ∧ rb.rep K G b.1 x := fun b hb => by
    obtain ⟨x, _, h⟩ := m1.left b hb
    exact ⟨x, h⟩
  refine ⟨rSortD K, fun j => by rw [← fam.ka j]; exact cr_sortD (by have := (fam.rm j).un; omega), c, ws.zip (xs.map enc), by rw [e, h1], by rw [m2]; exact h2, fun b hb => ?_, ?_, ?_, fun b hb => ?_, fun p hn => ?_⟩
  · obtain ⟨x, e1, e2⟩ := hx b hb
    rw [e1]
    exact hr.dp W.sub e2
  · rw [m3]
    exact AllAlike.of ha.al
  · rw [m3]
    exact hs.elim (fun z => Sortable.tuples z) fun z => Sortable.others z
  · obtain ⟨x, e1, e2⟩ := hx b hb
    rw [e1]
    exact Nat.le_trans (hr.dep x) ‹n ≤ 60›
  · have m4 := PySem.W.sort_each (r := dataLe false (fun b : VD => b.2)) (s := dataLe false enc) m1 fun p hp q hq => by
      have a1 := (m1.zip p hp).1
      have a2 := (m1.zip q hq).1
      show (!dataLt q.1.2 p.1.2) = !dataLt (enc q.2) (enc p.2)
      rw [a1, a2]
    have s : Stp B.T [] G H (upd G p (.lst (((ws.zip (xs.map enc)).mergeSort (dataLe false (·.2))).map (·.1)))) (upd H p (.lst (((ws.zip (xs.map enc)).mergeSort (dataLe false (·.2))).map (·.1)))) := Stp.new W.sub hn
    exact q _ O _ _ _ kk (W.step s) s.g ⟨p, _, rfl, upd_same, (each_back m4).mono fun _ _ z => rb.mono s.g z⟩
/-- max(t, default=d), t a tuple of ints -/
theorem d_maxDT [fam : Fam F P w K mg base k] {Φ : Int → List Own → Prop} (hm : mg "max" = none)
    (h : DW F K B Γ O e (rTpv rInt) fun xs O1 => DW F K B Γ O1 e2 rInt fun d O2 => ∀ m, (xs = [] → m = d) → (xs ≠ [] → m ∈ xs ∧ ∀ y ∈ xs, y ≤ m) → Φ m O2)
    (hg : ∀ i, Gl (F i) "max" := by intro _; rfl) (hs : ∀ i, starEach [e] (F i).env = (false, eval e (F i).env) :: starEach [] (F i).env := by intro _; rfl) (hc : ∀ j, (F j).calm = true := by intro _; rfl)
    (he : ∀ i, backTo pos (starEach [e] (F i).env) = (false, eval e (F i).env) :: backTo pos (starEach [] (F i).env) := by intro _; rfl) (hpl : ∀ i, (backTo pos (starEach [e] (F i).env)).any (·.1) = false := by intro _; rfl)
    (hall : ∀ i, (backToKw pos (keywordEach [⟨some "default", e2, kp⟩] (F i).env)).all (·.1.isSome) = true := by intro _; rfl) (hnone : ∀ i, (backToKw pos (keywordEach [⟨some "default", e2, kp⟩] (F i).env)).any (·.1.isNone) = false := by intro _; rfl)
    (hks : ∀ i, (backToKw pos (keywordEach [⟨some "default", e2, kp⟩] (F i).env)).filterMap (·.1) = [Str.ofString "default"] := by intro _; rfl) :
    DW F K B Γ O (.Call (.Name "max" p) [e] [⟨some "default", e2, kp⟩] pos) rInt Φ := by
  intro σ G H W Q q
  refine ⟨_, fun i => pe_callBK (r := rMaxDT K) (by rw [← fam.ka i]; exact cr_maxDT (hc i) (by have := (fam.rm i).un; omega)) (hg i) (by rw [fam.mg i]; exact hm) bt_max (pa_cons (WE.pe i) pa_nil (hs i)) (pk_cons (WE.pe i) pk_nil) (by decide) (by decide) (he i) (hpl i) (hall i) (hnone i) (hks i), ?_⟩
  refine h σ G H W _ fun xs O1 v G1 H1 k1 W1 e1 r1 => ?_
  refine k1 σ G1 H1 W1 _ fun d O2 u G2 H2 k2 W2 e2 r2 => ?_
  obtain ⟨c, ws, h1, h2, h3⟩ := (rTpv rInt).mono e2 r1
  refine ⟨c, xs, d, by rw [h1], by rw [show u = V.int d from r2], ?_, fun m a1 a2 => q m O2 _ G2 H2 (k2 m a1 a2) W2 (e1.trans e2) rfl⟩
  rw [← All2.map_int h3]
  exact ex_t W2.sub h2
end
end Sk
set_option Elab.async false
set_option linter.all false
set_option maxRecDepth 100000
set_option maxHeartbeats 4100000
/-! Sk50: sum of a tuple of ints; x in t, x not in t (flat items); stars of tuples. -/
namespace Sk
open PySem PySem.Spec PyProof.Rows L2 Evl
section
variable {prog : Program} {w : World} {A : Around} {E : Value → Shared → Prop} {s : Shared} {l : Addr}
theorem sumT_w {xs : Array (Int × Tok)} {Q : Value → Shared → Prop} (hh : A.handled = none) (hT : s.heap.IsTuple l (intItems xs))
    (h : ∀ h' tk t', (∀ b o, s.heap.get? b = some o → h'.get? b = some o) → Q (.int (preSum (numAt xs) xs.size) t') { s with heap := h', toks := tk }) :
    wpAny (model prog w) A (call (.builtin "sum") [.ref l]) Q E s := by
  have hl : l < s.heap.objs.size := by
    obtain ⟨o, ho, _⟩ := hT
    exact Heap.lt_size ho
  refine call_sum_walkG (wpAny_pyIter_tuple hT ?_)
  refine ⟨_, [_, l], [_], _, _, _, numAt xs, rfl, Walks.tuple (A := A.in1) hh _ l (Nat.ne_of_lt hl) (intItems xs), ⟨⟨_, Heap.get?_push_size _ rfl, rfl, rfl⟩, hT.push _⟩, fun c hc => ?_, (fun _ _ => intItems_at), fun h' tk t' hk => ?_⟩
  · show c < (s.heap.push _).objs.size
    rw [Heap.size_push]
    rcases List.mem_cons.mp hc with e | e
    · subst e
      exact Nat.lt_succ_self _
    · rw [List.mem_singleton.mp e]
      exact Nat.lt_succ_of_lt hl
  · have := h h' tk t' fun b o e => hk b o (fun hm => by
      rw [List.mem_singleton.mp hm] at e
      exact Nat.lt_irrefl _ (Heap.lt_size e)) (Heap.get?_push_of_some _ e)
    simpa [intItems] using this
end
def rSumT (K : PySem.W.Frag) : List V → Hp → VK → Prop := fun vs H Q => ∃ (a : Addr) (ns : List Int), vs = [V.ref a] ∧ SqT K H a (ns.map V.int) ∧ Q (.int ns.sum) H
section
variable {X : Cx}
theorem cr_sumT (hc : X.calm = true) : CallR X (.builtin "sum") (rSumT X.K) := by
  intro pins s σ H vs us Q I r h
  obtain ⟨a, ns, rfl, hs, q⟩ := h
  obtain ⟨its, rv, hl, _⟩ := I.tuple hs
  rw [Vals.ref1 r]
  have hi := rv.ints
  obtain ⟨xs, e⟩ := hi.allInts.items
  have hn : numsOf (intItems xs).toList = ns := by rw [← e]; exact hi.numsOf
  rw [nums_intItems] at hn
  rw [e] at hl
  refine sumT_w (I.ok.hd hc) hl fun h' tk t' hk => ?_
  rw [preSum_eq, List.take_of_length_le (by simp), hn]
  exact ⟨.int _, H, I.kept hk, ⟨_, rfl⟩, q⟩
end
section
variable {ι : Type} {F : ι → Cx} {K : Fg} {B : Bs} {Γ : Gm} {O : List Own}
theorem c_sumT {xs : List Int} {Φ : Int → List Own → Prop} (kk : Φ xs.sum O) (hK : ∀ j, (F j).K = K := by intro _; rfl) (hc : ∀ j, (F j).calm = true := by intro _; rfl) : CW F K B Γ O (.builtin "sum") (fOne (rTpv rInt)) xs rInt Φ :=
  fun σ G H vs W ⟨v, e, c, ws, h1, h2, h3⟩ Q q => ⟨rSumT K, fun j => by rw [← hK j]; exact cr_sumT (hc j), c, xs, by rw [e, h1], by rw [← All2.map_int h3]; exact ex_t W.sub h2, q _ O _ G H kk W (Ex.refl _) rfl⟩
end
/-! ### x in t -/
/-- flat things: == is equality -/
class Flt {α : Type} (r : Rp α) (mk : outParam (α → V)) : Prop where
  rep : ∀ {K : Fg} {G : Hp} {v : V} {x : α}, r.rep K G v x → v = mk x
  flat : ∀ x, flatV (mk x) = true
  eqv : ∀ x y, eqV (mk x) (mk y) = true ↔ x = y
instance fltInt : Flt rInt V.int := ⟨fun h => h, fun _ => rfl, fun x y => by show (x == y) = true ↔ _; simp⟩
instance fltStr : Flt rStr V.str := ⟨fun h => h, fun _ => rfl, fun x y => by show (x == y) = true ↔ _; simp⟩
section
variable {α β γ : Type}
theorem flt_all {r : Rp α} {mk : α → V} (hf : Flt r mk) {K : Fg} {G : Hp} : ∀ {vs : List V} {xs : List α}, All2 (r.rep K G) vs xs → vs = xs.map mk
  | [], [], _ => rfl
  | _ :: _, _ :: _, ⟨a, b⟩ => by rw [List.map_cons, hf.rep a, flt_all hf b]
  | [], _ :: _, z => z.elim
  | _ :: _, [], z => z.elim
theorem flt_in {r : Rp α} {mk : α → V} (hf : Flt r mk) [DecidableEq α] (x : α) (xs : List α) : inV (mk x) (xs.map mk) = decide (x ∈ xs) := by
  unfold inV
  rw [List.any_map, Bool.eq_iff_iff, List.any_eq_true, decide_eq_true_eq]
  constructor
  · rintro ⟨y, hy, e⟩
    rw [← (hf.eqv y x).mp e]
    exact hy
  · intro h
    exact ⟨x, h, (hf.eqv x x).mpr rfl⟩
theorem flt_flat {r : Rp α} {mk : α → V} (hf : Flt r mk) (xs : List α) : (xs.map mk).all flatV = true := by
  rw [List.all_map, List.all_eq_true]
  exact fun x _ => hf.flat x
variable {ι : Type} {F : ι → Cx} {K : Fg} {B : Bs} {Γ : Gm} {O : List Own} {ra : Rp α} {rb : Rp β} {e : Expr} {es : List Expr} {pos p : Pos}
variable {P : Program} {w : World} {mg : Str → Option Value} {base : Heap} {k : Nat}
theorem o_inT {mk : α → V} [hf : Flt ra mk] [DecidableEq α] {x : α} {xs : List α} {Ψ : Bool → List Own → Prop} (kk : Ψ (decide (x ∈ xs)) O) (hK : ∀ j, (F j).K = K := by intro _; rfl) : OW F K B Γ O (compareOp .In) ra (rTpv ra) x xs rBool Ψ := fun σ G H v w W rv ⟨c, ws, h1, h2, h3⟩ Q q => by
  have e := flt_all hf h3
  subst e
  exact ⟨rIn K false, fun j => by rw [← hK j]; exact op_in_seq, c, xs.map mk, h1, .inr (ex_t W.sub h2), by rw [hf.rep rv]; exact hf.flat x, flt_flat hf xs, q _ O _ G H kk W (Ex.refl _) (by rw [hf.rep rv]; exact congrArg V.bl (flt_in hf x xs))⟩
theorem o_notInT {mk : α → V} [hf : Flt ra mk] [DecidableEq α] {x : α} {xs : List α} {Ψ : Bool → List Own → Prop} (kk : Ψ (!decide (x ∈ xs)) O) (hK : ∀ j, (F j).K = K := by intro _; rfl) : OW F K B Γ O (compareOp .NotIn) ra (rTpv ra) x xs rBool Ψ := fun σ G H v w W rv ⟨c, ws, h1, h2, h3⟩ Q q => by
  have e := flt_all hf h3
  subst e
  exact ⟨rIn K true, fun j => by rw [← hK j]; exact op_notIn_seq, c, xs.map mk, h1, .inr (ex_t W.sub h2), by rw [hf.rep rv]; exact hf.flat x, flt_flat hf xs, q _ O _ G H kk W (Ex.refl _) (by rw [hf.rep rv]; exact congrArg (fun b => V.bl (!b)) (flt_in hf x xs))⟩
theorem da_starT [fam : Fam F P w K mg base k] {Φ : List β → List Own → Prop} (h : DW F K B Γ O e (rTpv rb) fun xs O1 => DA F K B Γ O1 es (fAll rb) fun ys O2 => Φ (xs ++ ys) O2)
    (hs : ∀ i, starEach (.Starred e p :: es) (F i).env = (true, eval e (F i).env) :: starEach es (F i).env := by intro _; rfl) : DA F K B Γ O (.Starred e p :: es) (fAll rb) Φ := by
  intro σ G H W Q q
  refine ⟨StX.tStar K (WE F e) (WA F es), fun i => by rw [← fam.ka i]; exact StX.pa_star (WE.pe i) (WA.pa i) (hs i), ?_⟩
  refine h σ G H W _ fun xs O1 v G1 H1 kk W1 e1 ⟨c, ws, h1, h2, h3⟩ => ?_
  refine ⟨c, ws, h1, .inl (ex_t W1.sub h2), ?_⟩
  exact kk σ G1 H1 W1 _ fun ys O2 vs G2 H2 k2 W2 e2 r2 => q _ O2 _ G2 H2 k2 W2 (e1.trans e2) ((h3.mono fun _ _ z => rb.mono e2 z).append r2)
end
end Sk
set_option Elab.async false
set_option linter.all false
set_option maxRecDepth 100000
set_option maxHeartbeats 4100000
/-! Sk51: xs.index(y) of data of any depth; t + u, empty or not; list(t). -/
namespace Sk
open PySem PySem.Spec PyProof.Rows L2 Evl
section
variable {ι : Type} {F : ι → Cx} {K : Fg} {B : Bs} {Γ : Gm} {O : List Own} {α β γ : Type} {rc : Rp γ} {o e : Expr} {pos apos p : Pos}
variable {P : Program} {w : World} {mg : Str → Option Value} {base : Heap} {k : Nat}
theorem idx_before [DecidableEq γ] {xs : List γ} {y z : γ} {m : Nat} (h : m < xs.idxOf y) (hz : xs[m]? = some z) : z ≠ y := by
  induction xs generalizing m with
  | nil => simp at hz
  | cons x xs ih =>
    rw [List.idxOf_cons] at h
    by_cases e : x = y
    · subst e
      simp at h
    · have e' : (x == y) = false := by simpa using e
      rw [e'] at h
      simp only [cond_false] at h
      cases m with
      | zero =>
        have : x = z := by simpa using hz
        rw [← this]
        exact e
      | succ m =>
        have hz' : xs[m]? = some z := by simpa using hz
        exact ih (by omega) hz'
theorem d_index [fam : Fam F P w K mg base k] {enc : γ → PyData} {n : Nat} {good : γ → Prop} [hr : Dat rc enc n good] [DecidableEq γ] {Φ : Int → List Own → Prop}
    (h : DW F K B Γ O o (rLst rc) fun xs O1 => DW F K B Γ O1 e rc fun y O2 => y ∈ xs ∧ (∀ z ∈ xs, good z) ∧ good y ∧ Φ ((xs.idxOf y : Nat) : Int) O2) (hn : n + 1 ≤ 64 := by decide)
    (hbase : ∀ j, attributeBase o "index" (F j).env (eval o (F j).env) = eval o (F j).env := by intro _; rfl)
    (hfew : ∀ j, ((backTo pos (starEach [e] (F j).env)).all (fun x => !x.1) && (backToKw pos (keywordEach [] (F j).env)).all (fun x => x.1.isSome)
      && decide ([e].length + ([] : List Keyword).length + (if ([] : List Keyword).isEmpty then 0 else 1) < 30)) = true := by intro _; rfl)
    (hline : (apos.endLine == pos.line) = true := by rfl) (hs : ∀ j, starEach [e] (F j).env = (false, eval e (F j).env) :: starEach [] (F j).env := by intro _; rfl) :
    DW F K B Γ O (.Call (.Attribute o "index" apos) [e] [] pos) rInt Φ := by
  refine d_bm (ra := rLst rc) (f := fOne rc) (r := rIndexD K) PySem.F.plainAttrs_list PySem.F.slot_list_index PySem.F.type_list_index (fun j => by rw [← fam.ka j]; exact mt_indexD (by have := (fam.rm j).un; omega)) ?_ hbase hfew hline hs (fun _ => rfl)
  refine d_mono h fun xs O1 h1 => ⟨fun σ G H v W ⟨a, vs, b1, b2, b3⟩ => ?_, da_one (d_mono h1 fun y O2 ⟨hy, hg, gy, kk⟩ => ?_) hs⟩
  · subst b1
    exact .inl ⟨rfl, vs, SqL.of (W.sub _ _ b2)⟩
  · intro σ G H v vs W ⟨a, us, b1, b2, b3⟩ ⟨u, e1, ru⟩ Q q'
    have hl := List.idxOf_lt_length_of_mem hy
    refine ⟨a, u, enc y, xs.map enc, xs.idxOf y, enc y, b1, e1, by rw [← b1, b1]; exact .lst (SqL.of (W.sub _ _ b2)) (all2_dp hr W.sub b3), hr.dp W.sub ru, shp (r := rLst rc) inferInstance hg hn, shp hr gy (by omega), ?_, (hr.eqv y y).mpr rfl, fun m z hm hz => ?_, q' _ O2 _ G H kk W (Ex.refl _) rfl⟩
    · rw [List.getElem?_map, List.getElem?_eq_getElem hl, List.getElem_idxOf]
      rfl
    · rw [List.getElem?_map] at hz
      obtain ⟨z0, h0, e0⟩ := Option.map_eq_some_iff.mp hz
      rw [← e0]
      exact Bool.eq_false_iff.mpr fun t => idx_before hm h0 ((hr.eqv z0 y).mp t)
end
section
variable {ι : Type} {F : ι → Cx} {K : Fg} {B : Bs} {Γ : Gm} {O : List Own} {α β : Type} {ra : Rp α} {rb : Rp β}
theorem o_catA {xs ys : List β} {Φ : List β → List Own → Prop} (hz : xs.length + ys.length ≤ sizeLine) (kk : Φ (xs ++ ys) O) (hK : ∀ j, (F j).K = K := by intro _; rfl) : OW F K B Γ O (binaryOp .Add) (rTpv rb) (rTpv rb) xs ys (rTpv rb) Φ := by
  intro σ G H v u W ⟨c, vs, a1, a2, a3⟩ ⟨d, us, b1, b2, b3⟩ Q q
  refine ⟨rCatA K, fun j => by rw [← hK j]; exact op_catA, c, d, vs, us, a1, b1, ex_t W.sub a2, ex_t W.sub b2, by rw [a3.length, b3.length]; exact hz, fun e => ?_, fun _ e => ?_, fun _ _ p hp => ?_⟩
  · have e2 : xs = [] := List.eq_nil_of_length_eq_zero (by rw [← a3.length, e]; rfl)
    exact q _ O _ G H kk W (Ex.refl _) ⟨d, us, rfl, b2, by rw [e2]; exact b3⟩
  · have e2 : ys = [] := List.eq_nil_of_length_eq_zero (by rw [← b3.length, e]; rfl)
    exact q _ O _ G H kk W (Ex.refl _) ⟨c, vs, rfl, a2, by rw [e2, List.append_nil]; exact a3⟩
  · have s : Stp B.T [] G H (upd G p (.tup (vs ++ us))) (upd H p (.tup (vs ++ us))) := Stp.new W.sub hp
    exact q _ O _ _ _ kk (W.step s) s.g ⟨p, _, rfl, SqT.of upd_same, (a3.append b3).mono fun _ _ z => rb.mono s.g z⟩
end
end Sk
set_option Elab.async false
set_option linter.all false
set_option maxRecDepth 100000
set_option maxHeartbeats 4100000
/-! Sk52: the signs of a text walked; len of a text; a sign in a text; try: e except C: continue. -/
namespace Sk
open PySem PySem.Spec PyProof.Rows L2 Evl
/-! ### try: e except C: continue -/
section
variable {P : Program} {w : World} {K : Fg} {mg : Str → Option Value} {base : Heap} {k : Nat} {B : Bs} {Γ : Gm} {O : List Own}
abbrev wCt (K : Fg) (c : Value) (D : Ends) : WX := wOnly K c (fun _ _ _ => fun D σ H => D.ct σ H) wNo D
theorem xt_ct {C : Addr} {fl : List (Str × V)} {D : Ends} (hm : PySem.W.exmOne K (.ref C) (.ref C) = some true) (h : ∀ σ G H, Ws K B Γ O σ G H → D.ct σ H) : XT K B Γ O C fl (wCt K (.ref C) D) :=
  fun d σ G H W _ => ⟨true, hm, fun _ _ _ => h σ G H W, fun z => Bool.noConfusion z⟩
variable {X : Cx} {e : Expr} {x : Str} {np p1 p2 p3 p4 p5 : Pos} {c : Value} {α : Type} {ra : Rp α} {D : Ends} {rest : List Stmt}
theorem s_tryCt [fam : Fam (Us X) P w K mg base k] (hs : X.stack = X.env :: X.outer) (hf : X.env.frame = some X.env.locals) (hc : Names X x c)
    (h : DW (Ft X (wCt K c { D with nx := WSs X rest D })) K B Γ O e ra fun _ O' => DS X K B Γ O' rest D) (hsw : swapsWith e none p1.line X.env = pure false := by rfl) :
    DS X K B Γ O (.Try [.Expr e p1] [.ExceptHandler (some (.Name x np)) none [.Continue p3] p4] [] [] p5 :: rest) D := by
  intro σ G H Ww
  have hK : X.K = K := fam.ka ()
  refine WSs.cons (ps_try_only (tb := fun W => tDrop (WE (Ft X W) e)) (ts := fun _ _ _ => fun D σ H => D.ct σ H) (Wout := wNo) hs hf hc (fun u s' ⟨_, _, _, _, _, _, _, _, _, _, _, _, _, _, _, _, z⟩ => z.elim)
    (fun W pn xe tk po => pss_one (ps_expr (X := X.tr pn xe) (te := WE (Ft X W) e) (WE.pe (F := Ft X W) ⟨(pn, xe), tk, po⟩) hsw)) (fun a oe cls d pn hz hff => pss_one ps_continue)) ?_
  rw [hK]
  exact h σ G H Ww _ fun y O' v G' H' kk W' _ r => kk _ G' H' W'
end
end Sk
set_option Elab.async false
set_option linter.all false
set_option maxRecDepth 100000
set_option maxHeartbeats 4100000
/-! Sk53: k not in d; x in xs, x not in xs (flat items); a op b op c op d as a test. -/
namespace Sk
open PySem PySem.Spec PyProof.Rows L2 Evl
section
variable {ι : Type} {F : ι → Cx} {K : Fg} {B : Bs} {Γ : Gm} {O : List Own} {α β γ : Type} {ra : Rp α} {rb : Rp β} {i o : Expr} {pos p : Pos}
variable {P : Program} {w : World} {mg : Str → Option Value} {base : Heap} {k : Nat}
theorem o_notInL {mk : α → V} [hf : Flt ra mk] [DecidableEq α] {x : α} {y : β} {xs : List α} [hl : LsR O rb y ra xs] {Ψ : Bool → List Own → Prop} (kk : Ψ (!decide (x ∈ xs)) O) (hK : ∀ j, (F j).K = K := by intro _; rfl) : OW F K B Γ O (compareOp .NotIn) ra rb x y rBool Ψ := fun σ G H v w W rv rw Q q => by
  obtain ⟨c, ws, h1, h2, h3⟩ := hl.get W rw
  have e := flt_all hf h3
  subst e
  exact ⟨rIn K true, fun j => by rw [← hK j]; exact op_notIn_seq, c, xs.map mk, h1, .inl h2, by rw [hf.rep rv]; exact hf.flat x, flt_flat hf xs, q _ O _ G H kk W (Ex.refl _) (by rw [hf.rep rv]; exact congrArg (fun b => V.bl (!b)) (flt_in hf x xs))⟩
end
end Sk
namespace L2
open PySem PySem.Spec PyProof.Rows
end L2
namespace Sk
open PySem L2 Evl
end Sk
set_option Elab.async false
set_option linter.all false
set_option maxRecDepth 100000
set_option maxHeartbeats 4100000
/-! Sk54: part of a text; str(n). -/
namespace Sk
open PySem PySem.Spec PyProof.Rows L2 Evl
section
variable {ι : Type} {F : ι → Cx} {K : Fg} {B : Bs} {Γ : Gm} {O : List Own} {α β γ : Type} {ra : Rp α} {e tg : Expr}
variable {P : Program} {w : World} {mg : Str → Option Value} {base : Heap} {k : Nat}
theorem c_strI {i : Int} {Φ : Str → List Own → Prop} (hz : i.natAbs.log2 < 1920) (kk : Φ (toString i) O) : CW F K B Γ O (.type "str") (fOne rInt) i rStr Φ :=
  fun σ G H vs W ⟨v, e, rv⟩ Q q => ⟨_, fun _ => call_str_int, i, by rw [e, show v = V.int i from rv], hz, q _ O _ G H kk W (Ex.refl _) rfl⟩
theorem c_isiO {ι : Type} {F : ι → Cx} {K : Fg} {B : Bs} {Γ : Gm} {O : List Own} {β : Type} {rb : Rp β} {x : Addr × String} {xs : List β} {f : Own → List Own} [hO : OwnAt O x.1 (oLst rb) xs f] {b : Bool} {Φ : Bool → List Own → Prop} (hb : PySem.W.kitOne K (.type "list") (.type x.2) = some b) (k : Φ b O) (hK : ∀ j, (F j).K = K := by intro _; rfl) :
    CW F K B Γ O (.builtin "isinstance") (fCons rAdr (fOne rTy)) x rBool Φ :=
  fun σ G H vs W ⟨v, ws, e, rv, u, e2, ru⟩ Q q => by
    obtain ⟨ob, h1, us, h2, h3⟩ := W.ownO hO
    subst h2
    exact ⟨rIsi K, fun j => by rw [← hK j]; exact call_isi, v, .ty x.2, .type "list", .type x.2, b, by rw [e, e2, show u = V.ty x.2 from ru], .ty _, by rw [show v = V.ref x.1 from rv]; exact .base (.lst h1), hb, q b O _ G H k W (Ex.refl _) rfl⟩
end
end Sk
set_option Elab.async false
set_option linter.all false
set_option maxRecDepth 100000
set_option maxHeartbeats 4100000
/-! Sk55: try: x = e except C: continue. -/
namespace Sk
open PySem PySem.Spec PyProof.Rows L2 Evl
section
variable {P : Program} {w : World} {K : Fg} {mg : Str → Option Value} {base : Heap} {k : Nat} {B : Bs} {Γ : Gm} {O : List Own}
variable {X : Cx} {e : Expr} {x n : Str} {np p1 p2 p3 p4 p5 : Pos} {c : Value} {α : Type} {ra : Rp α} {D : Ends} {rest : List Stmt}
theorem s_trySetCt [fam : Fam (Us X) P w K mg base k] (i : Nat) {f : Option Slot → Gm} [hg : SetG Γ i f] (hs : X.stack = X.env :: X.outer) (hf : X.env.frame = some X.env.locals) (hc : Names X x c)
    (h : DW (Ft X (wCt K c { D with nx := WSs X rest D })) K B Γ O e ra fun y O' => DS X K B (f (some ⟨ra, y⟩)) O' rest D) (hi : X.N[i]? = some n := by rfl)
    (hx : Loc X.env.scope n := by first | exact Or.inl rfl | exact Or.inr rfl) (hsw : swapsWith e (some (.Name n p2)) p1.line X.env = pure false := by rfl) (hfn : X.fn n = true ∨ X.env.scope.names.lookup n = some .local := by first | exact .inr rfl | exact .inl rfl) :
    DS X K B Γ O (.Try [.Assign [.Name n p2] e p1] [.ExceptHandler (some (.Name x np)) none [.Continue p3] p4] [] [] p5 :: rest) D := by
  intro σ G H Ww
  have hK : X.K = K := fam.ka ()
  refine WSs.cons (ps_try_only (tb := fun W => tAsg (WE (Ft X W) e) (gName i)) (ts := fun _ _ _ => fun D σ H => D.ct σ H) (Wout := wNo) hs hf hc (fun u s' ⟨_, _, _, _, _, _, _, _, _, _, _, _, _, _, _, _, z⟩ => z.elim)
    (fun W pn xe tk po => pss_one (ps_set (X := X.tr pn xe) (te := WE (Ft X W) e) (fam.nd ()) hi hx (WE.pe (F := Ft X W) ⟨(pn, xe), tk, po⟩) hsw hfn)) (fun a oe cls d pn hz hff => pss_one ps_continue)) ?_
  rw [hK]
  exact h σ G H Ww _ fun y O' v G' H' kk W' _ r => kk _ G' H' (by rw [hg.eq]; exact W'.set i r)
end
end Sk
set_option Elab.async false
set_option linter.all false
set_option maxRecDepth 100000
set_option maxHeartbeats 4100000
/-! Sk57: hookY with the places of the part written out: the search for them is what made the head of a large law run out of memory. -/
namespace Sk
open PySem L2 Evl
def Kas (as : List Addr) (g : Addr → Option Obj) : Fg := He.frT g (cStatics :: as)
def obsL (as : List Addr) (fa : List He.Fa) (fn : List He.DefD) (ts : List He.Tab) (tf : List He.Defn) (ex : Fg → Bool) (g : Addr → Option Obj) : He.AlX := (He.obsT fa fn ts (Kas as g), ex (Kas as g) && He.tabsB g tf (Kas as g))
theorem saysL_of {as : List Addr} {fa : List He.Fa} {fn : List He.DefD} {ts : List He.Tab} {tf : List He.Defn} {ex : Fg → Bool} {w : World} {h : Heap} (e : obsL as fa fn ts tf ex h.get? = He.valX fn ts w) : He.SaysX fa fn ts tf ex w h (Kas as h.get?) := by
  have e1 : He.obsT fa fn ts (Kas as h.get?) = He.valT fn ts w := congrArg (fun z : He.AlX => z.1) e
  have e2 : (ex (Kas as h.get?) && He.tabsB h.get? tf (Kas as h.get?)) = true := congrArg (fun z : He.AlX => z.2) e
  obtain ⟨h1, h2⟩ := He.ba e2
  have key : ∀ p ∈ tf, PySem.W.codeHdIn (Kas as h.get?) (He.cT (Kas as h.get?) p).1 (He.cT (Kas as h.get?) p).2 = true ∧ ∃ o, h.get? (He.cT (Kas as h.get?) p).2 = some o ∧ He.emptyTab o = true := fun p hp => by
    obtain ⟨h3, h4⟩ := He.ba (List.all_eq_true.mp h2 p hp)
    refine ⟨h3, ?_⟩
    cases q : h.get? (He.cT (Kas as h.get?) p).2 with
    | none =>
      rw [q] at h4
      cases h4
    | some o =>
      rw [q] at h4
      exact ⟨o, rfl, h4⟩
  exact ⟨e1, h1, fun p hp => (key p hp).1, fun p hp => by
    obtain ⟨_, o, q, z⟩ := key p hp
    exact He.frT_none q z, fun p hp => by
    obtain ⟨_, o, q, z⟩ := key p hp
    rw [q, He.emptyTab_eq z]⟩
def hookL (as : List Addr) (fa : List He.Fa) (fn : List He.DefD) (ts : List He.Tab) (tf : List He.Defn) (ex : PySem.W.Frag → Bool) (xs : List XcD) : PySem.W.Hook where
  α := He.AlX × List FnB
  obs := fun s => (obsL as fa fn ts tf ex s.heap.get?, xs.map (fnB (Kas as s.heap.get?)))
  val := fun w => (He.valX fn ts w, xs.map XcD.val)
  says := fun w h => ∃ K : PySem.W.Frag, K.In h ∧ He.SaysX fa fn ts tf ex w h K ∧ xs.map (fnB K) = xs.map XcD.val
  of := fun _ _ e => ⟨_, He.frT_in, saysL_of (congrArg Prod.fst e), congrArg Prod.snd e⟩
  keeps := fun _ _ _ ⟨K, hK, c, e⟩ k => ⟨K, PySem.W.Frag.In.keeps hK k, ⟨c.t, c.more, c.hd, c.out, fun p hp => k _ _ (c.empty p hp)⟩, e⟩
end Sk
set_option Elab.async false
set_option linter.all false
set_option maxRecDepth 100000
set_option maxHeartbeats 4100000
/-! MP: charts, routes and paths, plainly (shared by the laws of paths). -/
namespace MP
open PySem L2 Evl Sk
abbrev Pt := Int × Int
abbrev Leg := Str × Str × Str × Int × Int
abbrev Fx := List (Key × Pt)
abbrev P3 := Int × Int × Int
/-! ### roots -/
def sqrU (n : Int) : Int := if decide (sqr n * sqr n = n) then sqr n else sqr n + 1
theorem sq_pos {x : Int} (h : x ≠ 0) : 0 < x * x := by
  rcases Int.lt_or_gt_of_ne h with z | z
  · exact Int.mul_pos_of_neg_of_neg z z
  · exact Int.mul_pos z z
theorem sq_nn (x : Int) : 0 ≤ x * x := by
  by_cases h : x = 0
  · rw [h]; decide
  · exact Int.le_of_lt (sq_pos h)
theorem sq_lt {x y : Int} (hx : 0 ≤ x) (h : x < y) : x * x < y * y := by
  have h1 := Int.mul_le_mul_of_nonneg_left (Int.le_of_lt h) hx
  have h2 := Int.mul_lt_mul_of_pos_right h (show 0 < y by omega)
  omega
theorem up_ok {n : Int} (h : 0 ≤ n) : 0 ≤ sqrU n ∧ n ≤ sqrU n * sqrU n ∧ (sqrU n = 0 ∨ (sqrU n - 1) * (sqrU n - 1) < n) := by
  obtain ⟨h1, h2, h3⟩ := sqr_ok h
  unfold sqrU
  by_cases e : sqr n * sqr n = n
  · rw [if_pos (decide_eq_true e)]
    refine ⟨h1, by omega, ?_⟩
    rcases Int.lt_or_le 0 (sqr n) with z | z
    · refine .inr ?_
      have e2 : (sqr n - 1) * (sqr n - 1) = sqr n * sqr n - sqr n - sqr n + 1 := by
        rw [Int.sub_mul, Int.mul_sub]
        omega
      omega
    · exact .inl (by omega)
  · rw [if_neg (by simpa using e)]
    refine ⟨by omega, by omega, .inr ?_⟩
    have e2 : sqr n + 1 - 1 = sqr n := by omega
    rw [e2]
    omega
/-- the least number whose square is at least n -/
theorem up_unique {n x : Int} (hn : 0 ≤ n) (h0 : 0 ≤ x) (h1 : n ≤ x * x) (h2 : x = 0 ∨ (x - 1) * (x - 1) < n) : x = sqrU n := by
  obtain ⟨u0, u1, u2⟩ := up_ok hn
  rcases Int.lt_trichotomy x (sqrU n) with z | z | z
  · exfalso
    rcases u2 with w | w
    · omega
    · have h3 : x * x ≤ (sqrU n - 1) * (sqrU n - 1) := by
        rcases Int.lt_or_le x (sqrU n - 1) with y | y
        · exact Int.le_of_lt (sq_lt h0 y)
        · have : x = sqrU n - 1 := by omega
          rw [this]
          exact Int.le_refl _
      omega
  · exact z
  · exfalso
    rcases h2 with w | w
    · omega
    · have h3 : sqrU n * sqrU n ≤ (x - 1) * (x - 1) := by
        rcases Int.lt_or_le (sqrU n) (x - 1) with y | y
        · exact Int.le_of_lt (sq_lt u0 y)
        · have : sqrU n = x - 1 := by omega
          rw [this]
          exact Int.le_refl _
      omega
theorem up_le {n y : Int} (hn : 0 ≤ n) (hy : 0 ≤ y) (h : n ≤ y * y) : sqrU n ≤ y := by
  obtain ⟨u0, u1, u2⟩ := up_ok hn
  rcases u2 with w | w
  · omega
  · rcases Int.lt_or_le y (sqrU n) with z | z
    · have h3 : y * y ≤ (sqrU n - 1) * (sqrU n - 1) := by
        rcases Int.lt_or_le y (sqrU n - 1) with x | x
        · exact Int.le_of_lt (sq_lt hy x)
        · have : y = sqrU n - 1 := by omega
          rw [this]
          exact Int.le_refl _
      omega
    · exact z
/-! ### the search by halves: low and high behind i of 24 steps -/
structure HvOk (n : Int) (i : Nat) (d : Int × Int) : Prop where
  l0 : 0 ≤ d.1
  lh : d.1 ≤ d.2
  hi : d.2 ≤ 10000000
  up : n ≤ d.2 * d.2
  dn : d.1 = 0 ∨ (d.1 - 1) * (d.1 - 1) < n
  w : (d.2 - d.1) * 2 ^ i ≤ 10000000
theorem hv_init {n : Int} (h1 : n ≤ 10000000 * 10000000) : HvOk n 0 (0, 10000000) := ⟨by decide, by decide, by decide, h1, .inl rfl, by decide⟩
theorem hv_hi {n : Int} {i : Nat} {lo hi : Int} (h : HvOk n i (lo, hi)) (hm : n ≤ (lo + hi) / 2 * ((lo + hi) / 2)) : HvOk n (i + 1) (lo, (lo + hi) / 2) := by
  obtain ⟨h1, h2, h3, h4, h5, h6⟩ := h
  dsimp only at h1 h2 h3 h4 h5 h6
  refine ⟨h1, by dsimp only; omega, by dsimp only; omega, hm, h5, ?_⟩
  dsimp only
  rw [Int.pow_succ]
  have p : (0 : Int) < 2 ^ i := Int.pow_pos (by decide)
  have e : ((lo + hi) / 2 - lo) * (2 ^ i * 2) = (((lo + hi) / 2 - lo) * 2) * 2 ^ i := by rw [Int.mul_comm (2 ^ i) 2, Int.mul_assoc]
  rw [e]
  exact Int.le_trans (Int.mul_le_mul_of_nonneg_right (show ((lo + hi) / 2 - lo) * 2 ≤ hi - lo by omega) (Int.le_of_lt p)) h6
theorem hv_lo {n : Int} {i : Nat} {lo hi : Int} (hn : 0 ≤ n) (h : HvOk n i (lo, hi)) (hm : ¬ n ≤ (lo + hi) / 2 * ((lo + hi) / 2)) : HvOk n (i + 1) ((lo + hi) / 2 + 1, hi) := by
  obtain ⟨h1, h2, h3, h4, h5, h6⟩ := h
  dsimp only at h1 h2 h3 h4 h5 h6
  have hlt : (lo + hi) / 2 < hi := by
    rcases Int.lt_or_le ((lo + hi) / 2) hi with z | z
    · exact z
    · exfalso
      have e : (lo + hi) / 2 = hi := by omega
      rw [e] at hm
      exact hm h4
  refine ⟨by dsimp only; omega, by dsimp only; omega, h3, h4, .inr ?_, ?_⟩
  · dsimp only
    rw [show (lo + hi) / 2 + 1 - 1 = (lo + hi) / 2 by omega]
    omega
  · dsimp only
    rw [Int.pow_succ]
    have p : (0 : Int) < 2 ^ i := Int.pow_pos (by decide)
    have e : (hi - ((lo + hi) / 2 + 1)) * (2 ^ i * 2) = ((hi - ((lo + hi) / 2 + 1)) * 2) * 2 ^ i := by rw [Int.mul_comm (2 ^ i) 2, Int.mul_assoc]
    rw [e]
    exact Int.le_trans (Int.mul_le_mul_of_nonneg_right (show (hi - ((lo + hi) / 2 + 1)) * 2 ≤ hi - lo by omega) (Int.le_of_lt p)) h6
theorem hv_end {n : Int} (hn : 0 ≤ n) {d : Int × Int} (h : HvOk n 24 d) : d.2 = sqrU n := by
  obtain ⟨lo, hi⟩ := d
  obtain ⟨h1, h2, h3, h4, h5, h6⟩ := h
  dsimp only at h1 h2 h3 h4 h5 h6
  have e : hi = lo := by
    have e24 : (2 : Int) ^ 24 = 16777216 := by decide
    rw [e24] at h6
    omega
  subst e
  exact up_unique hn h1 h4 h5
/-! ### points, lengths, begins -/
def pt (fx : Fx) (n : Str) : Pt := (valX fx (Sum.inr n)).getD (0, 0)
def d2 (a b : Pt) : Int := (b.1 - a.1) * (b.1 - a.1) + (b.2 - a.2) * (b.2 - a.2)
theorem d2_nn (a b : Pt) : 0 ≤ d2 a b := by
  have h1 := sq_nn (b.1 - a.1)
  have h2 := sq_nn (b.2 - a.2)
  unfold d2
  omega
def ln (fx : Fx) (s e : Str) : Int := sqrU (d2 (pt fx s) (pt fx e))
theorem ln_nn (fx : Fx) (s e : Str) : 0 ≤ ln fx s e := (up_ok (d2_nn _ _)).1
def lgb (legs : List Leg) (s e : Str) : Option Leg := legs.find? fun l => decide (l.1 = s) && decide (l.2.1 = e)
def at_ (r : List Str) (k : Nat) : Str := r.getD k Str.empty
def bg (fx : Fx) (r : List Str) : Nat → Int
  | 0 => 0
  | k + 1 => bg fx r k + ln fx (at_ r k) (at_ r (k + 1))
theorem bg_mono (fx : Fx) (r : List Str) {i j : Nat} (h : i ≤ j) : bg fx r i ≤ bg fx r j := by
  induction j with
  | zero =>
    have : i = 0 := by omega
    subst this
    exact Int.le_refl _
  | succ j ih =>
    by_cases e : i = j + 1
    · subst e
      exact Int.le_refl _
    · have := ih (by omega)
      have := ln_nn fx (at_ r j) (at_ r (j + 1))
      show bg fx r i ≤ bg fx r j + ln fx (at_ r j) (at_ r (j + 1))
      omega
def begins (fx : Fx) (r : List Str) : List Int := (List.range r.length).map (bg fx r)
def dfl : Leg := (Str.empty, Str.empty, Str.empty, 0, 0)
def lgAt (legs : List Leg) (r : List Str) (k : Nat) : Leg := (lgb legs (at_ r k) (at_ r (k + 1))).getD dfl
def lgs (legs : List Leg) (r : List Str) : List Leg := (List.range (r.length - 1)).map (lgAt legs r)
/-- points are near -/
structure PtOk (p : Pt) : Prop where
  x0 : -1000000 ≤ p.1
  x1 : p.1 ≤ 1000000
  y0 : -1000000 ≤ p.2
  y1 : p.2 ≤ 1000000
theorem d2_le {a b : Pt} (ha : PtOk a) (hb : PtOk b) : d2 a b ≤ 10000000 * 10000000 := by
  obtain ⟨a1, a2, a3, a4⟩ := ha
  obtain ⟨b1, b2, b3, b4⟩ := hb
  have sq : ∀ x : Int, -2000000 ≤ x → x ≤ 2000000 → x * x ≤ 2000000 * 2000000 := fun x h1 h2 => by
    rcases Int.le_total 0 x with z | z
    · exact Int.mul_le_mul h2 h2 z (by decide)
    · have := Int.mul_le_mul (show -x ≤ 2000000 by omega) (show -x ≤ 2000000 by omega) (by omega) (by decide)
      rw [Int.neg_mul_neg] at this
      exact this
  have h1 := sq (b.1 - a.1) (by omega) (by omega)
  have h2 := sq (b.2 - a.2) (by omega) (by omega)
  unfold d2
  omega
theorem ln_le {fx : Fx} {s e : Str} (h1 : PtOk (pt fx s)) (h2 : PtOk (pt fx e)) : ln fx s e ≤ 10000000 := up_le (d2_nn _ _) (by decide) (d2_le h1 h2)
/-! ### the leg of a progress -/
/-- the least index k with k + 1 = m or p < begin (k + 1) -/
structure LaOk (b : Nat → Int) (m : Nat) (p : Int) (k : Nat) : Prop where
  lt : k < m
  le : ∀ j, 1 ≤ j → j ≤ k → b j ≤ p
  en : k + 1 = m ∨ p < b (k + 1)
theorem la_unique {b : Nat → Int} (hb : ∀ i j, i ≤ j → b i ≤ b j) {m : Nat} {p : Int} {k l : Nat} (h1 : LaOk b m p k) (h2 : LaOk b m p l) : k = l := by
  rcases Nat.lt_trichotomy k l with z | z | z
  · exfalso
    rcases h1.en with e | e
    · have := h2.lt
      omega
    · have := h2.le (k + 1) (by omega) (by omega)
      omega
  · exact z
  · exfalso
    rcases h2.en with e | e
    · have := h1.lt
      omega
    · have := h1.le (l + 1) (by omega) (by omega)
      omega
end MP
set_option Elab.async false
set_option linter.all false
set_option maxRecDepth 100000
set_option maxHeartbeats 4100000
namespace Law
open PySem L2 Evl Sk
def top (i : Nat) : Stmt := PySem.Challenge.pw_skyapart_k37_sequences_of_arrivals.main.body.getD i (.Pass ⟨0, 0, 0, 0⟩)
abbrev s__wall : Stmt := top 1
abbrev s_root_up : Stmt := top 8
abbrev s_leg_between : Stmt := top 10
abbrev s_leg_length : Stmt := top 11
abbrev s_open_legs : Stmt := top 12
abbrev s_is_shut : Stmt := top 13
abbrev s_wind_at : Stmt := top 15
abbrev s_step_bounds : Stmt := top 16
abbrev s_into_range : Stmt := top 19
abbrev s_target : Stmt := top 20
abbrev s_towards : Stmt := top 21
abbrev s_next_levels : Stmt := top 22
abbrev s_bounds_on : Stmt := top 23
abbrev s_next_box : Stmt := top 24
abbrev s_legs_below : Stmt := top 25
abbrev s_check_levels : Stmt := top 26
abbrev s_check_hours : Stmt := top 27
abbrev s_check_headway : Stmt := top 28
abbrev s_tube : Stmt := top 29
abbrev s_window : Stmt := top 30
abbrev s_landing_tick : Stmt := top 32
abbrev s_natural_positions : Stmt := top 33
abbrev s_best_order : Stmt := top 35
abbrev s_route_length : Stmt := top 41
abbrev s_alternatives : Stmt := top 42
abbrev s_with_loops : Stmt := top 43
abbrev s_possible_routes : Stmt := top 48
abbrev s_different : Stmt := top 49
abbrev s_menu : Stmt := top 50
abbrev s_first_entry : Stmt := top 53
abbrev s_sequenced : Stmt := top 54
abbrev s_start : Stmt := top 56
abbrev s_draw : Stmt := top 57
abbrev s_pick : Stmt := top 58
abbrev s_law_root_up : Stmt := top 61
abbrev s_names : Stmt := top 62
abbrev s_legs : Stmt := top 63
abbrev s_chart : Stmt := top 64
abbrev s_leg : Stmt := top 65
abbrev s_lengths : Stmt := top 66
abbrev s_begins : Stmt := top 69
abbrev s_leg_at : Stmt := top 70
abbrev s_kind : Stmt := top 73
abbrev s_rules : Stmt := top 74
abbrev s_winds : Stmt := top 75
abbrev s_law_wind_at : Stmt := top 76
abbrev s_bounds : Stmt := top 77
abbrev s_law_target : Stmt := top 78
abbrev s_law_towards : Stmt := top 79
abbrev s_law_next : Stmt := top 81
abbrev s_code : Stmt := top 82
abbrev s_law_tube : Stmt := top 83
abbrev s_request : Stmt := top 84
abbrev s_ready : Stmt := top 85
abbrev s_orders : Stmt := top 86
abbrev s_ticks : Stmt := top 87
abbrev s_best : Stmt := top 88
abbrev s_due : Stmt := top 89
abbrev s_found : Stmt := top 90
abbrev s_law : Stmt := top 91
def clsB : Stmt → List Stmt
  | .ClassDef (body := b) .. => b
  | _ => []
abbrev s_Search_init : Stmt := (clsB (top 34)).getD 0 (.Pass ⟨0, 0, 0, 0⟩)
abbrev s_Search_grow : Stmt := (clsB (top 34)).getD 1 (.Pass ⟨0, 0, 0, 0⟩)
abbrev s_Search_is_worse : Stmt := (clsB (top 34)).getD 2 (.Pass ⟨0, 0, 0, 0⟩)
abbrev ns_Search : List Str := ["gaps", "arrivals", "shift", "positions", "best"]
abbrev s_Path_init : Stmt := (clsB (top 37)).getD 0 (.Pass ⟨0, 0, 0, 0⟩)
abbrev s_Path_route : Stmt := (clsB (top 37)).getD 1 (.Pass ⟨0, 0, 0, 0⟩)
abbrev s_Path_total : Stmt := (clsB (top 37)).getD 2 (.Pass ⟨0, 0, 0, 0⟩)
abbrev s_Path_begin : Stmt := (clsB (top 37)).getD 3 (.Pass ⟨0, 0, 0, 0⟩)
abbrev s_Path_legs : Stmt := (clsB (top 37)).getD 4 (.Pass ⟨0, 0, 0, 0⟩)
abbrev s_Path_leg : Stmt := (clsB (top 37)).getD 5 (.Pass ⟨0, 0, 0, 0⟩)
abbrev s_Path_leg_at : Stmt := (clsB (top 37)).getD 6 (.Pass ⟨0, 0, 0, 0⟩)
abbrev s_Path_start : Stmt := (clsB (top 37)).getD 7 (.Pass ⟨0, 0, 0, 0⟩)
abbrev s_Path_vector : Stmt := (clsB (top 37)).getD 8 (.Pass ⟨0, 0, 0, 0⟩)
abbrev s_Path_on_leg : Stmt := (clsB (top 37)).getD 9 (.Pass ⟨0, 0, 0, 0⟩)
abbrev s_Path_place : Stmt := (clsB (top 37)).getD 10 (.Pass ⟨0, 0, 0, 0⟩)
abbrev s_Path_piece : Stmt := (clsB (top 37)).getD 11 (.Pass ⟨0, 0, 0, 0⟩)
abbrev ns_Path : List Str := ["_route", "_legs", "_points", "_begins"]
abbrev s_RouteError_init : Stmt := (clsB (top 4)).getD 0 (.Pass ⟨0, 0, 0, 0⟩)
abbrev s_CourseError_init : Stmt := (clsB (top 5)).getD 0 (.Pass ⟨0, 0, 0, 0⟩)
abbrev s_SequenceError_init : Stmt := (clsB (top 6)).getD 0 (.Pass ⟨0, 0, 0, 0⟩)
abbrev pM : Module := PySem.Challenge.pw_skyapart_k37_sequences_of_arrivals.main
abbrev cd_DELAYS : CD := .tup [.int 0, .int 8]
abbrev cd_LOOPS : CD := .tup [.int 0, .int 1]
theorem cdi_rep {K : Fg} {xs : List Int} {u : PySem.Value} (h : cdB K (.tup (xs.map CD.int)) u = true) (G : Hp) : (rTpv rInt).rep K G (cdOf u) xs := cr_tpv (f := CD.int) (fun _ _ _ h => cr_int h) xs u G h
structure Nm (K : PySem.W.Frag) (mg : Str → Option Value) where
  _wall : Df K mg "_wall" s__wall ["k"]
  root_up : Df K mg "root_up" s_root_up ["n"]
  leg_between : Df K mg "leg_between" s_leg_between ["chart", "start", "end"]
  leg_length : Df K mg "leg_length" s_leg_length ["chart", "start", "end"]
  open_legs : Df K mg "open_legs" s_open_legs ["chart", "start", "level"]
  is_shut : Df K mg "is_shut" s_is_shut ["chart", "leg", "tick"]
  wind_at : Df K mg "wind_at" s_wind_at ["winds", "tick"]
  step_bounds : Df K mg "step_bounds" s_step_bounds ["vector", "speed", "slip", "wind"]
  into_range : Df K mg "into_range" s_into_range ["level", "leg"]
  target : Df K mg "target" s_target ["path", "course", "index"]
  towards : Df K mg "towards" s_towards ["level", "goal", "rate"]
  next_levels : Df K mg "next_levels" s_next_levels ["kind", "goal", "down", "up"]
  bounds_on : Df K mg "bounds_on" s_bounds_on ["path", "index", "course", "rules", "wind"]
  next_box : Df K mg "next_box" s_next_box ["path", "course", "kind", "rules", "winds", "tick", "box"]
  legs_below : Df K mg "legs_below" s_legs_below ["path", "box"]
  check_levels : Df K mg "check_levels" s_check_levels ["path", "tick", "box"]
  check_hours : Df K mg "check_hours" s_check_hours ["chart", "path", "tick", "box"]
  check_headway : Df K mg "check_headway" s_check_headway ["path", "course", "rules", "winds", "tick", "box"]
  tube : Df K mg "tube" s_tube ["chart", "path", "course", "kind", "rules", "winds", "tick", "box"]
  window : Df K mg "window" s_window ["path", "tick", "boxes"]
  landing_tick : Df K mg "landing_tick" s_landing_tick ["gaps", "arrival", "before"]
  natural_positions : Df K mg "natural_positions" s_natural_positions ["arrivals"]
  best_order : Df K mg "best_order" s_best_order ["gaps", "arrivals", "shift"]
  route_length : Df K mg "route_length" s_route_length ["chart", "route"]
  alternatives : Df K mg "alternatives" s_alternatives ["chart", "start", "goal", "level", "count"]
  with_loops : Df K mg "with_loops" s_with_loops ["chart", "route", "loops"]
  possible_routes : Df K mg "possible_routes" s_possible_routes ["chart", "request"]
  different : Df K mg "different" s_different ["first", "second"]
  menu : Df K mg "menu" s_menu ["chart", "request"]
  first_entry : Df K mg "first_entry" s_first_entry ["chart", "rules", "winds", "request"]
  sequenced : Df K mg "sequenced" s_sequenced ["chart", "rules", "winds", "requests", "shift"]
  start : Df K mg "_law_start" s_start ["_law_script"]
  draw : Df K mg "_law_draw" s_draw ["_law_state", "_law_bound"]
  pick : Df K mg "_law_pick" s_pick ["_law_state", "_law_things"]
  law_root_up : Df K mg "_law_root_up" s_law_root_up ["_law_n"]
  names : Df K mg "_law_names" s_names ["_law_state", "_law_many"]
  legs : Df K mg "_law_legs" s_legs ["_law_state", "_law_names_here"]
  chart : Df K mg "_law_chart" s_chart ["_law_state", "_law_many", "_law_size"]
  leg : Df K mg "_law_leg" s_leg ["_law_chart_here", "_law_start_here", "_law_end"]
  lengths : Df K mg "_law_lengths" s_lengths ["_law_chart_here"]
  begins : Df K mg "_law_begins" s_begins ["_law_lengths_here", "_law_route"]
  leg_at : Df K mg "_law_leg_at" s_leg_at ["_law_begins_here", "_law_progress"]
  kind : Df K mg "_law_kind" s_kind ["_law_state"]
  rules : Df K mg "_law_rules" s_rules ["_law_state"]
  winds : Df K mg "_law_winds" s_winds ["_law_state"]
  law_wind_at : Df K mg "_law_wind_at" s_law_wind_at ["_law_winds_here", "_law_tick"]
  bounds : Df K mg "_law_bounds" s_bounds ["_law_chart_here", "_law_route", "_law_begins_here", "_law_k", "_law_speed", "_law_slip", "_law_wind"]
  law_target : Df K mg "_law_target" s_law_target ["_law_chart_here", "_law_route", "_law_k", "_law_level"]
  law_towards : Df K mg "_law_towards" s_law_towards ["_law_level", "_law_goal", "_law_rate"]
  law_next : Df K mg "_law_next" s_law_next ["_law_chart_here", "_law_route", "_law_begins_here", "_law_course", "_law_kind_here", "_law_rules_here", "_law_winds_here", "_law_tick", "_law_box"]
  code : Df K mg "_law_code" s_code ["_law_chart_here", "_law_route", "_law_begins_here", "_law_course", "_law_rules_here", "_law_winds_here", "_law_tick", "_law_box", "_law_many"]
  law_tube : Df K mg "_law_tube" s_law_tube ["_law_chart_here", "_law_route", "_law_begins_here", "_law_course", "_law_kind_here", "_law_rules_here", "_law_winds_here", "_law_tick", "_law_box"]
  request : Df K mg "_law_request" s_request ["_law_state", "_law_chart_here", "_law_name"]
  ready : Df K mg "_law_ready" s_ready ["_law_chart_here", "_law_lengths_here", "_law_rules_here", "_law_winds_here", "_law_request_here"]
  orders : Df K mg "_law_orders" s_orders ["_law_many"]
  ticks : Df K mg "_law_ticks" s_ticks ["_law_gaps", "_law_arrivals", "_law_order"]
  best : Df K mg "_law_best" s_best ["_law_gaps", "_law_arrivals", "_law_shift"]
  due : Df K mg "_law_due" s_due ["_law_chart_here", "_law_lengths_here", "_law_rules_here", "_law_winds_here", "_law_requests", "_law_shift"]
  found : Df K mg "_law_found" s_found ["_law_chart_here", "_law_rules_here", "_law_winds_here", "_law_requests", "_law_shift"]
  law : Df K mg "law" s_law ["_law_script"]
  route_lengthT : Tf route_length
  cSearch : Addr
  kSearch : Kl K cSearch ns_Search
  iSearch : Ck K mg "Search" cSearch "Search.__init__" s_Search_init ["self", "gaps", "arrivals", "shift"]
  mSearch_grow : Md K cSearch "grow" "Search.grow" s_Search_grow ["self", "order", "before"]
  mSearch_is_worse : Md K cSearch "is_worse" "Search.is_worse" s_Search_is_worse ["self", "tick"]
  cPath : Addr
  kPath : Kl K cPath ns_Path
  iPath : Ck K mg "Path" cPath "Path.__init__" s_Path_init ["self", "chart", "route"]
  mPath_route : Md K cPath "route" "Path.route" s_Path_route ["self"]
  mPath_total : Md K cPath "total" "Path.total" s_Path_total ["self"]
  mPath_begin : Md K cPath "begin" "Path.begin" s_Path_begin ["self", "index"]
  mPath_legs : Md K cPath "legs" "Path.legs" s_Path_legs ["self"]
  mPath_leg : Md K cPath "leg" "Path.leg" s_Path_leg ["self", "index"]
  mPath_leg_at : Md K cPath "leg_at" "Path.leg_at" s_Path_leg_at ["self", "progress"]
  mPath_start : Md K cPath "start" "Path.start" s_Path_start ["self", "index"]
  mPath_vector : Md K cPath "vector" "Path.vector" s_Path_vector ["self", "index"]
  mPath_on_leg : Md K cPath "_on_leg" "Path._on_leg" s_Path_on_leg ["self", "index", "progress"]
  mPath_place : Md K cPath "place" "Path.place" s_Path_place ["self", "progress"]
  mPath_piece : Md K cPath "piece" "Path.piece" s_Path_piece ["self", "low", "high"]
  cRouteError : Addr
  xRouteError : Xd pM K mg "RouteError" cRouteError "RouteError.__init__" s_RouteError_init ["code", "index"]
  cCourseError : Addr
  xCourseError : Xd pM K mg "CourseError" cCourseError "CourseError.__init__" s_CourseError_init ["code", "tick"]
  cSequenceError : Addr
  xSequenceError : Xd pM K mg "SequenceError" cSequenceError "SequenceError.__init__" s_SequenceError_init ["code"]
  kDELAYS : ∃ u, mg "DELAYS" = some u ∧ L2.RelV (cdOf u) u ∧ cdB K cd_DELAYS u = true
  kLOOPS : ∃ u, mg "LOOPS" = some u ∧ L2.RelV (cdOf u) u ∧ cdB K cd_LOOPS u = true
abbrev tsOf {K : PySem.W.Frag} {mg : Str → Option Value} (N : Nm K mg) : List Addr := [N.route_lengthT.P0]
/-- the tables stand in the base -/
structure Tb0 {K : PySem.W.Frag} {mg : Str → Option Value} (N : Nm K mg) (base : Heap) : Prop where
  route_length : GxR.TabB base mg N.route_lengthT.c N.route_lengthT.P0
/-- what is built in, the module's constants -/
structure Bt (mg : Str → Option Value) : Prop where
  ValueError : mg "ValueError" = none
  min : mg "min" = none
  max : mg "max" = none
  range : mg "range" = none
  list : mg "list" = none
  enumerate : mg "enumerate" = none
  sorted : mg "sorted" = none
  sum : mg "sum" = none
  len : mg "len" = none
  tuple : mg "tuple" = none
  zip : mg "zip" = none
  int : mg "int" = none
  isi : mg "isinstance" = none
  bool : mg "bool" = none
  any : mg "any" = none
  abs : mg "abs" = none
  super : mg "super" = none
  str : mg "str" = none
  LONGEST_TUBE : ∃ t, mg "LONGEST_TUBE" = some (.int 240 t)
  MOST_NAMES : ∃ t, mg "MOST_NAMES" = some (.int 16 t)
  MOST_SIMPLE : ∃ t, mg "MOST_SIMPLE" = some (.int 8 t)
  DELAYS : True
  ROUTES : ∃ t, mg "ROUTES" = some (.int 2 t)
  LOOPS : True
  PATIENCE : ∃ t, mg "PATIENCE" = some (.int 100 t)
  isqrt : mg "isqrt" = some (.builtin "math.isqrt")
/-- the state of the draws -/
def stN : List Str := ["cells", "at", "left", "mix"]
theorem stN_nd : stN.Nodup := by decide +kernel
abbrev stF : RpF (List Int × Int × Int × Int) := fCons (rLst rInt) (fCons rInt (fCons rInt (fOne rInt)))
structure StGood (d : List Int × Int × Int × Int) : Prop where
  cs : ∀ z ∈ d.1, 0 ≤ z
  at_ : 0 ≤ d.2.1
  lf : 0 ≤ d.2.2.1
  m0 : 0 ≤ d.2.2.2
  m1 : d.2.2.2 < 2147483647
abbrev oSt : Ow Unit := oEx (oRec stN stF) StGood
theorem bd31 {x : Int} (h0 : 0 ≤ x) (h1 : x < 2147483647) : Bd 31 x := Bd.of (by omega) (by omega)
local macro_rules | `(tactic| walk_at "sc") => `(tactic| first | omega | assumption | (with_reducible exact mulOk) | (with_reducible exact smOk) | (with_reducible exact ⟨by decide, smOk⟩) | decide | (simp only [List.length_cons, List.length_nil]; decide) | exact divOk (by omega))
section
variable {P : Program} {w : World} {K : PySem.W.Frag} {mg : Str → Option Value} {base : Heap}
abbrev sp_start (K : Fg) : Sp := spN K [] (fOne (rSeq rInt)) (fun ns => ns.length ≤ 63) oSt fun _ _ => True
theorem sc_start : FnScope ["_law_script", "_law_cell"] ["_law_script"] (defScope s_start) := ⟨rfl, rfl, rfl, by decide +kernel, rfl, by decide +kernel, by decide +kernel⟩
theorem ok_start (N : Nm K mg) (T : Bt mg) : FnOk P w K mg base CX0 1 N.start.f N.start.fd ["_law_script"] (sp_start K) := by
  refine fn_m N.start.F sc_start [] fun cdv A outer s G H E x Q fam hp hk => ?_
  show DS _ K ⟨[], [], G, H, []⟩ [some ⟨(rSeq rInt), x⟩, none] [] (defBody s_start) _
  refine s_ret (d_disp (ns := stN) (f := stF) stN_nd (fun i => pps_cons pe_str (WE.pe i) (pps_cons pe_str (WE.pe i) (pps_cons pe_str (WE.pe i) (pps_cons pe_str (WE.pe i) pps_nil)))) fun q hq => ?_)
  refine dd_cons (d_lcP [("_law_cell", 1)] [1] (fun _ => blkOk_by (N := ["_law_script", "_law_cell"]) (sc := defScope s_start) (by decide +kernel)) (w_seq (d_var 0 ⟨rfl, Nat.le_trans hp (by decide), fun gg D ys x hx => (g_name 1 (d_callB T.abs bt_abs (da_one (d_callT T.int bt_int (da_one (d_var 1 (c_int (c_abs ⟨rfl, rfl⟩)))))))), ?_⟩)))
  refine dd_cons (d_int (dd_cons (d_int (dd_one (d_bin (d_int (d_callB T.len bt_len (da_one (d_var 0 (c_lenS (o_add ⟨_, rfl, ?_⟩)))))))))))
  refine rt_close (r := oRec stN stF) (good := StGood) ⟨?_, Int.le_refl 0, Int.le_refl 0, ?_, ?_⟩ (hk ⟨(), trivial, rfl⟩)
  · intro z hz
    obtain ⟨y, _, e⟩ := List.mem_map.mp hz
    subst e
    split <;> omega
  · dsimp only
    omega
  · have hp' : x.length ≤ 63 := hp
    dsimp only
    omega
abbrev sp_draw (K : Fg) : Sp := sp1 K [] (fCons rAdr (fOne rInt)) (fun x => 0 < x.2 ∧ Sm x.2) (fun x => ⟨x.1, oSt, ()⟩) rInt fun x y => 0 ≤ y ∧ y < x.2
theorem sc_draw : FnScope ["_law_state", "_law_bound", "_law_cell", "_law_number"] ["_law_state", "_law_bound"] (defScope s_draw) := ⟨rfl, rfl, rfl, by decide +kernel, rfl, by decide +kernel, by decide +kernel⟩
theorem ok_draw (N : Nm K mg) (T : Bt mg) : FnOk P w K mg base CX0 1 N.draw.f N.draw.fd ["_law_state", "_law_bound"] (sp_draw K) := by
  refine fn_m N.draw.F sc_draw [] fun cdv A outer s G H E x Q fam hp hk => ?_
  obtain ⟨st, b⟩ := x
  obtain ⟨hb0, hbS⟩ := hp
  dsimp only at hb0 hbS
  have hbB := hbS.bd
  refine s_open (r := oRec stN stF) (good := StGood) fun d hd => ?_
  obtain ⟨cs, at', lf, mx⟩ := d
  obtain ⟨g1, g2, g3, g4, g5⟩ := hd
  dsimp only at g1 g2 g3 g4 g5
  have bm := bd31 g4 g5
  show DS _ K ⟨[], [st], G, H, []⟩ [some ⟨rAdr, st⟩, some ⟨rInt, b⟩, none, none] [⟨st, oRec stN stF, (cs, at', lf, mx)⟩] (defBody s_draw) _
  refine s_ifJ (fun d : List Int × Int × Int × Int => StGood d) (fun _ => [some ⟨rAdr, st⟩, some ⟨rInt, b⟩, none, none]) (fun d => [⟨st, oRec stN stF, d⟩]) (dt_bool (dp_andP (dt_cmp (d_recV 0 2 rfl stN_nd (d_int (o_eqI ⟨rfl, rfl⟩)))) (fun hb => (dp_and1 (dt_cmp (d_recV 0 1 rfl stN_nd (d_callB T.len bt_len (da_one (d_recV 0 0 rfl stN_nd (c_lenL (o_lt ⟨rfl, rfl⟩)))))))))))
    (fun hb => ?_) (fun hb => ?_) (fun d hd => ?_)
  · -- then
    simp only [Bool.and_eq_true, decide_eq_true_eq] at hb
    obtain ⟨c, hc1, hc2, _⟩ := atI_lt g2 hb.2
    have hc0 := g1 c hc2
    refine s_set 2 (d_ix (d_recV 0 0 rfl stN_nd (d_recV 0 1 rfl stN_nd (i_lst hc1 ?_))))
    refine s_recPutV 0 1 rfl stN_nd (d_bin (d_recV 0 1 rfl stN_nd (d_int (o_add ⟨rfl, ?_⟩))))
    refine s_recPutV 0 3 rfl stN_nd (d_bin (d_callT T.int bt_int (da_one (d_bin (d_bin (d_bin (d_recV 0 3 rfl stN_nd (d_int (o_mul (by walk_at "sc") (d_var 2 (o_add (d_int (o_add (c_int (d_int (o_mod (by walk_at "sc") ⟨rfl, ?_⟩))))))))))))))))
    obtain ⟨q0, q1⟩ := mod_rng (mx * 48271 + c + 11) (show (0 : Int) < 2147483647 by decide)
    refine s_ifP (dt_cmp (d_var 2 (d_bin (d_int (d_int (o_pow (by decide) (o_lt ⟨rfl, rfl⟩))))))) (fun hb => ?_) (fun hb => ?_)
    · refine s_ret (d_bin (d_callT T.int bt_int (da_one (d_var 2 (c_int (d_var 1 (o_mod (by walk_at "sc") ?_)))))))
      exact rt_close (r := oRec stN stF) (good := StGood) ⟨g1, by dsimp only; omega, g3, q0, q1⟩ (hk ⟨rfl, mod_rng _ hb0⟩)
    · refine s_out (s_recPutV 0 2 rfl stN_nd (d_var 2 ⟨rfl, ?_⟩))
      exact s_join (cs, at' + 1, c, (mx * 48271 + c + 11) % 2147483647) ⟨g1, by dsimp only; omega, hc0, q0, q1⟩ ⟨rfl, rfl, trivial⟩ rfl
  · exact s_join (cs, at', lf, mx) ⟨g1, g2, g3, g4, g5⟩ ⟨rfl, rfl, trivial⟩ rfl
  · obtain ⟨cs, at', lf, mx⟩ := d
    obtain ⟨g1, g2, g3, g4, g5⟩ := hd
    dsimp only at g1 g2 g3 g4 g5
    have bm := bd31 g4 g5
    refine s_ifP (dt_cmp (d_recV 0 2 rfl stN_nd (d_int (o_gt ⟨rfl, rfl⟩)))) (fun hb => ?_) (fun hb => ?_)
    · refine s_set 3 (d_bin (d_callT T.int bt_int (da_one (d_recV 0 2 rfl stN_nd (c_int (d_var 1 (o_mod (by walk_at "sc") ?_)))))))
      refine s_recPutV 0 2 rfl stN_nd (d_bin (d_recV 0 2 rfl stN_nd (d_var 1 (o_div (divOk hb0) ⟨rfl, ?_⟩))))
      refine s_ret (d_var 3 ?_)
      exact rt_close (r := oRec stN stF) (good := StGood) ⟨g1, g2, Int.ediv_nonneg g3 (by omega), g4, g5⟩ (hk ⟨rfl, mod_rng _ hb0⟩)
    · refine s_out (s_recPutV 0 3 rfl stN_nd (d_bin (d_callT T.int bt_int (da_one (d_bin (d_bin (d_recV 0 3 rfl stN_nd (d_int (o_mul (by walk_at "sc") (d_int (o_add (c_int (d_int (o_mod (by walk_at "sc") ⟨rfl, ?_⟩))))))))))))))
      obtain ⟨q0, q1⟩ := mod_rng (mx * 48271 + 11) (show (0 : Int) < 2147483647 by decide)
      have bm3 := bd31 q0 q1
      refine s_ret (d_bin (d_callT T.int bt_int (da_one (d_bin (d_callT T.int bt_int (da_one (d_bin (d_bin (d_recV 0 3 rfl stN_nd (d_int (o_mul (by walk_at "sc") (d_int (o_add (c_int (d_int (o_mod (by walk_at "sc") (c_int (d_var 1 (o_mod (by walk_at "sc") ?_)))))))))))))))))))
      exact rt_close (r := oRec stN stF) (good := StGood) ⟨g1, g2, g3, q0, q1⟩ (hk ⟨rfl, mod_rng _ hb0⟩)
abbrev sp_pick {α : Type} (ra : Rp α) (K : Fg) : Sp := sp1 K [] (fCons rAdr (fOne (rLst ra))) (fun x => 0 < x.2.length ∧ x.2.length ≤ sizeLine) (fun x => ⟨x.1, oSt, ()⟩) ra fun x y => y ∈ x.2
theorem sc_pick : FnScope ["_law_state", "_law_things"] ["_law_state", "_law_things"] (defScope s_pick) := ⟨rfl, rfl, rfl, by decide +kernel, rfl, by decide +kernel, by decide +kernel⟩
theorem ok_pick {α : Type} {ra : Rp α} (N : Nm K mg) (T : Bt mg) : FnOk P w K mg base CX0 2 N.pick.f N.pick.fd ["_law_state", "_law_things"] (sp_pick ra K) := by
  refine fn_m N.pick.F sc_pick [] fun cdv A outer s G H E x Q fam hp hk => ?_
  obtain ⟨st, xs⟩ := x
  obtain ⟨h0, h1⟩ := hp
  dsimp only at h0 h1
  have hB := bd_len h1
  show DS _ K ⟨[], [st], G, H, []⟩ [some ⟨rAdr, st⟩, some ⟨(rLst ra), xs⟩] [⟨st, oSt, ()⟩] (defBody s_pick) _
  refine s_ret (d_ix (rc := ra) (d_var 1 (d_call N.draw (ok_draw N T) (da_cons (d_var 0 (da_one (d_callB T.len bt_len (da_one (d_var 1 (c_lenL (sw_1 (q := st) ⟨?_, smOk⟩ (fun n hn => ?_))))))))))))
  · dsimp only
    omega
  · obtain ⟨c, c1, c2, _⟩ := atI_lt (xs := xs) hn.1 hn.2
    exact i_lst c1 (hk ⟨rfl, c2⟩)
theorem ini_RouteError (N : Nm K mg) (hP : P.main = pM) : FnOk P w K mg base CX0 1 N.xRouteError.f N.xRouteError.fd ["self", "code", "index"] (spXI N.cRouteError ["code", "index"]) := by
  refine xini_ok (N := ["self", "code", "index", "__class__"]) N.xRouteError.I hP (NdefX.nscope_by (by decide +kernel)) (by decide +kernel) rfl rfl rfl (fun vs H Q E ⟨a, ws, e, hl, _⟩ => by rw [e, List.length_cons, hl]; rfl) fun cc cda A outer s H vs Q E hr ⟨a, ws, e, hl, hea, hm, hq⟩ => ?_
  obtain ⟨v1, v2, rfl⟩ : ∃ v1 v2, ws = [v1, v2] := by
    match ws, hl with
    | [v1, v2], _ => exact ⟨v1, v2, rfl⟩
  subst e
  refine ⟨a, _, _, rfl, pa_cons (pe_joined (.cons (t := pTE (.inl "code ")) pe_str (.cons (t := pTE (.inr 1)) (pe_fmtR (pv 1)) (.cons (t := pTE (.inl ", index ")) pe_str (.cons (t := pTE (.inr 2)) (pe_fmtR (pv 2)) .nil))))) pa_nil, pss_cons (ps_ost (pv 0) (pv 1)) (pss_one (ps_ost (pv 0) (pv 2))), hea, ?_⟩
  refine tjs_ok [.inl "code ", .inr 1, .inl ", index ", .inr 2] _ (fun p hp => ?_) (by decide) fun out => ⟨by show 1 ≤ 1000; decide, hea, ?_⟩
  · simp only [List.mem_cons, List.not_mem_nil, or_false] at hp
    rcases hp with rfl | rfl | rfl | rfl
    · show ("code " : Str).length ≤ 1000
      decide
    · exact ⟨v1, rfl, hm _ (by simp)⟩
    · show (", index " : Str).length ≤ 1000
      decide
    · exact ⟨v2, rfl, hm _ (by simp)⟩
  exact ⟨v1, rfl, .ref a, rfl, a, N.cRouteError, rfl, N.xRouteError.I.T, (N.xRouteError.na _ (by simp)), .inl ⟨hea, fun d hd hne => ⟨v2, rfl, .ref a, rfl, a, N.cRouteError, rfl, N.xRouteError.I.T, (N.xRouteError.na _ (by simp)), .inr ⟨d, [("code", v1)], upd_same, (by rw [upd_ne hne]; exact upd_same), (by show 1 ≤ 900; decide), (by rw [ost_more hne rfl]; exact hq d hd hne)⟩⟩⟩⟩
theorem ini_CourseError (N : Nm K mg) (hP : P.main = pM) : FnOk P w K mg base CX0 1 N.xCourseError.f N.xCourseError.fd ["self", "code", "tick"] (spXI N.cCourseError ["code", "tick"]) := by
  refine xini_ok (N := ["self", "code", "tick", "__class__"]) N.xCourseError.I hP (NdefX.nscope_by (by decide +kernel)) (by decide +kernel) rfl rfl rfl (fun vs H Q E ⟨a, ws, e, hl, _⟩ => by rw [e, List.length_cons, hl]; rfl) fun cc cda A outer s H vs Q E hr ⟨a, ws, e, hl, hea, hm, hq⟩ => ?_
  obtain ⟨v1, v2, rfl⟩ : ∃ v1 v2, ws = [v1, v2] := by
    match ws, hl with
    | [v1, v2], _ => exact ⟨v1, v2, rfl⟩
  subst e
  refine ⟨a, _, _, rfl, pa_cons (pe_joined (.cons (t := pTE (.inl "code ")) pe_str (.cons (t := pTE (.inr 1)) (pe_fmtR (pv 1)) (.cons (t := pTE (.inl ", tick ")) pe_str (.cons (t := pTE (.inr 2)) (pe_fmtR (pv 2)) .nil))))) pa_nil, pss_cons (ps_ost (pv 0) (pv 1)) (pss_one (ps_ost (pv 0) (pv 2))), hea, ?_⟩
  refine tjs_ok [.inl "code ", .inr 1, .inl ", tick ", .inr 2] _ (fun p hp => ?_) (by decide) fun out => ⟨by show 1 ≤ 1000; decide, hea, ?_⟩
  · simp only [List.mem_cons, List.not_mem_nil, or_false] at hp
    rcases hp with rfl | rfl | rfl | rfl
    · show ("code " : Str).length ≤ 1000
      decide
    · exact ⟨v1, rfl, hm _ (by simp)⟩
    · show (", tick " : Str).length ≤ 1000
      decide
    · exact ⟨v2, rfl, hm _ (by simp)⟩
  exact ⟨v1, rfl, .ref a, rfl, a, N.cCourseError, rfl, N.xCourseError.I.T, (N.xCourseError.na _ (by simp)), .inl ⟨hea, fun d hd hne => ⟨v2, rfl, .ref a, rfl, a, N.cCourseError, rfl, N.xCourseError.I.T, (N.xCourseError.na _ (by simp)), .inr ⟨d, [("code", v1)], upd_same, (by rw [upd_ne hne]; exact upd_same), (by show 1 ≤ 900; decide), (by rw [ost_more hne rfl]; exact hq d hd hne)⟩⟩⟩⟩
theorem ini_SequenceError (N : Nm K mg) (hP : P.main = pM) : FnOk P w K mg base CX0 1 N.xSequenceError.f N.xSequenceError.fd ["self", "code"] (spXI N.cSequenceError ["code"]) := by
  refine xini_ok (N := ["self", "code", "__class__"]) N.xSequenceError.I hP (NdefX.nscope_by (by decide +kernel)) (by decide +kernel) rfl rfl rfl (fun vs H Q E ⟨a, ws, e, hl, _⟩ => by rw [e, List.length_cons, hl]; rfl) fun cc cda A outer s H vs Q E hr ⟨a, ws, e, hl, hea, hm, hq⟩ => ?_
  obtain ⟨v1, rfl⟩ : ∃ v1, ws = [v1] := by
    match ws, hl with
    | [v1], _ => exact ⟨v1, rfl⟩
  subst e
  refine ⟨a, _, _, rfl, pa_cons (pe_joined (.cons (t := pTE (.inl "code ")) pe_str (.cons (t := pTE (.inr 1)) (pe_fmtR (pv 1)) .nil))) pa_nil, pss_one (ps_ost (pv 0) (pv 1)), hea, ?_⟩
  refine tjs_ok [.inl "code ", .inr 1] _ (fun p hp => ?_) (by decide) fun out => ⟨by show 1 ≤ 1000; decide, hea, ?_⟩
  · simp only [List.mem_cons, List.not_mem_nil, or_false] at hp
    rcases hp with rfl | rfl
    · show ("code " : Str).length ≤ 1000
      decide
    · exact ⟨v1, rfl, hm _ (by simp)⟩
  exact ⟨v1, rfl, .ref a, rfl, a, N.cSequenceError, rfl, N.xSequenceError.I.T, (N.xSequenceError.na _ (by simp)), .inl ⟨hea, fun d hd hne => hq d hd hne⟩⟩
end
end Law
set_option Elab.async false
set_option linter.all false
set_option maxRecDepth 100000
set_option maxHeartbeats 4100000
/-! Ct: how the law's charts and paths stand (k09). -/
namespace Law
open PySem L2 Evl Sk MP
abbrev rPt : Rp Pt := rTup (fCons rInt (fOne rInt))
abbrev rLeg : Rp Leg := rTup (fCons rStr (fCons rStr (fCons rStr (fCons rInt (fOne rInt)))))
abbrev rP3 : Rp P3 := rTup (fCons rInt (fCons rInt (fOne rInt)))
abbrev chN5 : List Str := ["fixes", "legs", "zones", "runways", "holds"]
abbrev chN : List Str := ["fixes", "legs", "zones", "runways", "holds", "hours", "capacities"]
theorem chN_nd : chN.Nodup := by decide +kernel
theorem chN5_nd : chN5.Nodup := by decide +kernel
abbrev ChV5 := Fx × List Leg × List Int × List Str × List (Key × Str)
abbrev Hr := Str × Str × Int × Int
abbrev rHour : Rp Hr := rTup (fCons rStr (fCons rStr (fCons rInt (fOne rInt))))
abbrev ChV := (ChV5 × List Hr) × List (Key × Int)
abbrev chF5 : RpF ChV5 := fCons (rDk rPt) (fCons (rLst rLeg) (fCons (rLst rInt) (fCons (rLst rStr) (fOne (rDk rStr)))))
abbrev chF : RpF ChV := fApp (fApp chF5 (rLst rHour)) (rDk rInt)
abbrev rChart : Rp ChV := rRec chN chF
abbrev fxOf (c : ChV) : Fx := c.1.1.1
abbrev lgOf (c : ChV) : List Leg := c.1.1.2.1
abbrev hrOf (c : ChV) : List Hr := c.1.2
/-- a chart of one's own: its legs, its hours too -/
abbrev ChO5 := Fx × Addr × List Int × List Str × List (Key × Str)
abbrev ChO := (ChO5 × Addr) × List (Key × Int)
abbrev chFO5 : RpF ChO5 := fCons (rDk rPt) (fCons rAdr (fCons (rLst rInt) (fCons (rLst rStr) (fOne (rDk rStr)))))
abbrev chFO : RpF ChO := fApp (fApp chFO5 rAdr) (rDk rInt)
abbrev chO (c : ChV) (ql qh : Addr) : ChO := ((((fxOf c), ql, c.1.1.2.2), qh), c.2)
theorem ns_Path_nd : ns_Path.Nodup := by decide +kernel
abbrev PathV := (((Unit × List Str) × List Leg) × List Pt) × List Int
abbrev pF : RpF PathV := fApp (fApp (fApp (fApp fNil (rTpv rStr)) (rLst rLeg)) (rLst rPt)) (rLst rInt)
abbrev mkP (ch : ChV) (r : List Str) : PathV := (((((), r), lgs (lgOf ch) r), r.map (pt (fxOf ch))), begins (fxOf ch) r)
/-- a path of a route on a chart -/
def rPath (C : Addr) : Rp (ChV × List Str) := ⟨fun K G v x => (rIns C ns_Path pF).rep K G v (mkP x.1 x.2), fun e h => (rIns C ns_Path pF).mono e h⟩
instance insPath {O : List Own} {C : Addr} {x : ChV × List Str} : InsR O (rPath C) x C ns_Path pF (mkP x.1 x.2) := ⟨fun {K B Γ σ G H v} W h => InsR.get (O := O) (ra := rIns C ns_Path pF) (x := mkP x.1 x.2) W h⟩
instance {C : Addr} : NotNon (rPath C) := ⟨fun ⟨a, _, _, h, _⟩ z => by rw [h] at z; cases z⟩
/-- a route of the chart -/
structure RtV (ch : ChV) (r : List Str) : Prop where
  two : 2 ≤ r.length
  len : r.length ≤ 1000
  fx : ∀ n ∈ r, ∃ p, valX (fxOf ch) (Sum.inr n) = some p ∧ PtOk p
  lg : ∀ k, k + 1 < r.length → ∃ l, lgb (lgOf ch) (at_ r k) (at_ r (k + 1)) = some l
end Law
set_option Elab.async false
set_option linter.all false
set_option maxRecDepth 100000
set_option maxHeartbeats 4100000
/-! PathA: roots, legs, the making of a path (shared by the laws of paths). -/
namespace Law
open PySem L2 Evl Sk MP
local macro_rules | `(tactic| walk_at "sc") => `(tactic| first | omega | assumption | (with_reducible exact mulOk) | (with_reducible exact smOk) | (with_reducible exact ⟨by decide, smOk⟩) | decide | (simp only [List.length_cons, List.length_nil]; decide) | exact divOk (by omega))
section
variable {P : Program} {w : World} {K : PySem.W.Frag} {mg : Str → Option Value} {base : Heap}
theorem sqr_bd {n : Int} (h : 0 ≤ n) [hb : Bd 210 n] : Bd 210 (sqr n) := ⟨by
  obtain ⟨h1, h2, _⟩ := sqr_ok h
  have h3 := hb.lt
  have h4 : sqr n ≤ n := by
    rcases Int.lt_or_le (sqr n) 1 with z | z
    · omega
    · have := Int.mul_le_mul_of_nonneg_left z h1
      omega
  omega⟩
abbrev sp_root_up (K : Fg) : Sp := spF K [] (fOne rInt) (fun n => 0 ≤ n ∧ Bd 210 n) rInt sqrU
theorem sc_root_up : FnScope ["n", "root"] ["n"] (defScope s_root_up) := ⟨rfl, rfl, rfl, by decide +kernel, rfl, by decide +kernel, by decide +kernel⟩
theorem ok_root_up (N : Nm K mg) (T : Bt mg) : FnOk P w K mg base CX0 1 N.root_up.f N.root_up.fd ["n"] (sp_root_up K) := by
  refine fn_m N.root_up.F sc_root_up [] fun cdv A outer s G H E x Q fam hp hk => ?_
  obtain ⟨h0, hb⟩ := hp
  have hr := sqr_bd h0
  show DS _ K ⟨[], _, G, H, []⟩ [some ⟨rInt, x⟩, none] _ (defBody s_root_up) _
  refine s_set 1 (d_callG T.isqrt (da_one (d_var 0 (c_sqrt h0 ?_))))
  refine s_ret (d_iteP (dt_cmp (d_bin (d_var 1 (d_var 1 (o_mul (by walk_at "sc") (d_var 0 (o_eqI ⟨rfl, rfl⟩))))))) (fun hb => (d_var 1 (hk ⟨rfl, ?_⟩))) (fun hb => (d_bin (d_var 1 (d_int (o_add (hk ⟨rfl, ?_⟩)))))))
  · show sqr x = sqrU x
    unfold sqrU
    rw [if_pos hb]
  · show sqr x + 1 = sqrU x
    unfold sqrU
    rw [hb]
    rfl
abbrev sp_leg_between (K : Fg) : Sp := spF K [] (fCons rChart (fCons rStr (fOne rStr))) (fun x => ∃ l, lgb (lgOf x.1) x.2.1 x.2.2 = some l) rLeg fun x => (lgb (lgOf x.1) x.2.1 x.2.2).getD dfl
theorem sc_leg_between : FnScope ["chart", "start", "end", "leg"] ["chart", "start", "end"] (defScope s_leg_between) := ⟨rfl, rfl, rfl, by decide +kernel, rfl, by decide +kernel, by decide +kernel⟩
theorem ok_leg_between (N : Nm K mg) (T : Bt mg) : FnOk P w K mg base CX0 1 N.leg_between.f N.leg_between.fd ["chart", "start", "end"] (sp_leg_between K) := by
  refine fn_m N.leg_between.F sc_leg_between [] fun cdv A outer s G H E x Q fam hp hk => ?_
  obtain ⟨ch, sn, en⟩ := x
  obtain ⟨l0, hl0⟩ := hp
  dsimp only at hl0
  show DS _ K ⟨[], _, G, H, []⟩ [some ⟨rChart, ch⟩, some ⟨rStr, sn⟩, some ⟨rStr, en⟩, none] _ (defBody s_leg_between) _
  refine s_for (js := [3]) (w_lst (ra := rLeg) (d_recP 0 1 rfl chN_nd ?_))
  refine ⟨Unit, fun i _ => ((lgOf ch).take i).find? (fun l => decide (l.1 = sn) && decide (l.2.1 = en)) = none, fun _ => [some ⟨rChart, ch⟩, some ⟨rStr, sn⟩, some ⟨rStr, en⟩, none], fun _ => [], ⟨(), rfl, ⟨rfl, rfl, rfl, trivial⟩, rfl⟩, fun g i x d hx hd => (g_name 3 ?_), fun d hd => ?_⟩
  · refine s_ifP (dt_bool (dp_andP (dt_cmp (d_ix (d_var 3 (d_int (i_tup 0 (d_var 1 (o_eqS ⟨rfl, rfl⟩))))))) (fun hb => (dp_and1 (dt_cmp (d_ix (d_var 3 (d_int (i_tup 1 (d_var 2 (o_eqS ⟨rfl, rfl⟩))))))))))) (fun hb => ?_) (fun hb => ?_)
    · refine s_ret (d_var 3 (rt_in (hk ⟨rfl, ?_⟩)))
      show x = (lgb (lgOf ch) sn en).getD dfl
      unfold lgb
      rw [find_at hd hx hb]
      rfl
    · exact s_out (s_next () (find_no hd hx hb) ⟨rfl, rfl, rfl, trivial⟩ rfl)
  · exfalso
    have hd' : ((lgOf ch).take (lgOf ch).length).find? (fun l => decide (l.1 = sn) && decide (l.2.1 = en)) = none := hd
    rw [List.take_length] at hd'
    unfold lgb at hl0
    rw [hd'] at hl0
    cases hl0
abbrev sp_leg_length (K : Fg) : Sp := spF K [] (fCons rChart (fCons rStr (fOne rStr))) (fun x => (∃ p, valX (fxOf x.1) (Sum.inr x.2.1) = some p ∧ PtOk p) ∧ ∃ p, valX (fxOf x.1) (Sum.inr x.2.2) = some p ∧ PtOk p) rInt fun x => ln (fxOf x.1) x.2.1 x.2.2
theorem sc_leg_length : FnScope ["chart", "start", "end", "ax", "ay", "bx", "by"] ["chart", "start", "end"] (defScope s_leg_length) := ⟨rfl, rfl, rfl, by decide +kernel, rfl, by decide +kernel, by decide +kernel⟩
theorem pt_of {fx : Fx} {n : Str} {p : Pt} (h : valX fx (Sum.inr n) = some p) : pt fx n = p := by
  unfold pt
  rw [h]
  rfl
theorem ok_leg_length (N : Nm K mg) (T : Bt mg) : FnOk P w K mg base CX0 2 N.leg_length.f N.leg_length.fd ["chart", "start", "end"] (sp_leg_length K) := by
  refine fn_m N.leg_length.F sc_leg_length [] fun cdv A outer s G H E x Q fam hp hk => ?_
  obtain ⟨ch, sn, en⟩ := x
  obtain ⟨⟨p, hp1, op⟩, ⟨q, hq1, oq⟩⟩ := hp
  dsimp only at hp1 hq1
  have hd2 := d2_le op oq
  have hd0 := d2_nn p q
  have b1 : Bd 30 (q.1 - p.1) := Bd.of (by have := op.x1; have := oq.x0; omega) (by have := op.x0; have := oq.x1; omega)
  have b2 : Bd 30 (q.2 - p.2) := Bd.of (by have := op.y1; have := oq.y0; omega) (by have := op.y0; have := oq.y1; omega)
  have b3 : Bd 210 (d2 p q) := Bd.of (by omega) (by omega)
  show DS _ K ⟨[], _, G, H, []⟩ [some ⟨rChart, ch⟩, some ⟨rStr, sn⟩, some ⟨rStr, en⟩, none, none, none, none] _ (defBody s_leg_length) _
  refine s_asg (js := [3, 4]) (ra := rPt) (d_dk (d_recP 0 0 rfl chN_nd (d_keyS (d_var 1 ⟨_, p, inferInstance, hp1, g_tup (gs_cons (g_name 3 (gs_one (g_name 4 ?_))))⟩))))
  refine s_asg (js := [5, 6]) (ra := rPt) (d_dk (d_recP 0 0 rfl chN_nd (d_keyS (d_var 2 ⟨_, q, inferInstance, hq1, g_tup (gs_cons (g_name 5 (gs_one (g_name 6 ?_))))⟩))))
  refine s_ret (d_call N.root_up (ok_root_up N T) (da_one (d_bin (d_bin (d_bin (d_var 5 (d_var 3 (o_sub (d_bin (d_var 5 (d_var 3 (o_sub (o_mul (by walk_at "sc") (d_bin (d_bin (d_var 6 (d_var 4 (o_sub (d_bin (d_var 6 (d_var 4 (o_sub (o_mul (by walk_at "sc") (o_add (sw_f ⟨hd0, b3⟩ (hk ⟨rfl, ?_⟩))))))))))))))))))))))))))
  show sqrU (d2 p q) = ln (fxOf ch) sn en
  unfold ln
  rw [pt_of hp1, pt_of hq1]
end
end Law
set_option Elab.async false
set_option linter.all false
set_option maxRecDepth 100000
set_option maxHeartbeats 4100000
/-! PathB: a path is made (shared by the laws of paths). -/
namespace Law
open PySem L2 Evl Sk MP
local macro_rules | `(tactic| walk_at "sc") => `(tactic| first | omega | assumption | (with_reducible exact mulOk) | (with_reducible exact smOk) | (with_reducible exact ⟨by decide, smOk⟩) | decide | (simp only [List.length_cons, List.length_nil]; decide) | exact divOk (by omega))
theorem at_get {r : List Str} {k : Nat} (h : k < r.length) : r[k]? = some (at_ r k) := by
  unfold at_
  rw [List.getD_eq_getElem?_getD, List.getElem?_eq_getElem h]
  rfl
theorem at_mem {r : List Str} {k : Nat} (h : k < r.length) : at_ r k ∈ r := List.mem_of_getElem? (at_get h)
theorem cut_from {α : Type} (xs : List α) (k : Nat) (h : k ≤ xs.length) : cutL xs (some (k : Int)) none = xs.drop k := by
  unfold cutL
  have e1 : HT.sIx xs.length 0 (some (k : Int)) = k := by
    show (if (k : Int) < 0 then ((k : Int) + (xs.length : Int)).toNat else min (k : Int).toNat xs.length) = _
    rw [if_neg (by omega)]
    omega
  rw [e1]
  show (xs.drop k).take (xs.length - k) = _
  rw [← List.length_drop, List.take_length]
theorem pairs_get {r : List Str} {i : Nat} {x : Str × Str} (h : (r.zip (r.drop 1))[i]? = some x) : i + 1 < r.length ∧ x = (at_ r i, at_ r (i + 1)) := by
  obtain ⟨h1, h2⟩ := List.getElem?_zip_eq_some.mp (show (r.zip (r.drop 1))[i]? = some (x.1, x.2) from h)
  rw [List.getElem?_drop] at h2
  have hl : 1 + i < r.length := (List.getElem?_eq_some_iff.mp h2).1
  have hi : i + 1 < r.length := by omega
  rw [at_get (by omega)] at h1
  rw [show 1 + i = i + 1 by omega, at_get hi] at h2
  exact ⟨hi, Prod.ext (Option.some.inj h1).symm (Option.some.inj h2).symm⟩
theorem range_map_get {α : Type} {f : Nat → α} {n i : Nat} (h : i < n) : ((List.range n).map f)[i]? = some (f i) := by
  rw [List.getElem?_map, List.getElem?_range h]
  rfl
section
variable {P : Program} {w : World} {K : PySem.W.Frag} {mg : Str → Option Value} {base : Heap}
abbrev sp_Path_init (C : Addr) (K : Fg) : Sp := spM K [] (fCons rAdr (fCons rChart (fOne (rTpv rStr)))) (fun x => RtV x.2.1 x.2.2) (fun x => [⟨x.1, oNew C, ()⟩]) rNon fun x _ O' => O' = [⟨x.1, oIns C ns_Path pF, mkP x.2.1 x.2.2⟩]
abbrev N_Path_init : List Str := ["self", "chart", "route", "start", "end", "name"]
theorem sc_Path_init : FnScope N_Path_init ["self", "chart", "route"] (defScope s_Path_init) := ⟨rfl, rfl, rfl, by decide +kernel, rfl, by decide +kernel, by decide +kernel⟩
abbrev nsA : List Str := ["_route"]
abbrev nsB : List Str := ["_route", "_legs"]
abbrev nsC : List Str := ["_route", "_legs", "_points"]
abbrev pF4 : RpF ((((Unit × List Str) × Addr) × List Pt) × Addr) := fApp (fApp (fApp (fApp fNil (rTpv rStr)) rAdr) (rLst rPt)) rAdr
abbrev pF3 : RpF ((((Unit × List Str) × Addr) × List Pt) × List Int) := fApp (fApp (fApp (fApp fNil (rTpv rStr)) rAdr) (rLst rPt)) (rLst rInt)
theorem ok_Path_init (N : Nm K mg) (T : Bt mg) : FnOk P w K mg base CX0 3 N.iPath.f N.iPath.fd ["self", "chart", "route"] (sp_Path_init N.cPath K) := by
  refine fn_m N.iPath.F sc_Path_init [] fun cdv A outer s G H E x Q fam hp hk => ?_
  obtain ⟨sf, ch, r⟩ := x
  obtain ⟨h2, h1000, hfx, hlg⟩ := hp
  dsimp only at h2 h1000 hfx hlg
  have hsz : r.length ≤ sizeLine := Nat.le_trans h1000 (by decide)
  show DS _ K ⟨[], _, G, H, []⟩ [some ⟨rAdr, sf⟩, some ⟨rChart, ch⟩, some ⟨(rTpv rStr), r⟩, none, none, none] [⟨sf, oNew N.cPath, ()⟩] (defBody s_Path_init) _
  refine s_fldN (ns := []) (f := fNil) (r := rTpv rStr) (N.kPath.sub (by decide)) (d_callT T.tuple bt_tuple (da_one (d_var 2 (c_tupleT (d_var 0 ⟨_, _, inferInstance, ?_⟩)))))
  refine s_fldN (ns := nsA) (f := fApp fNil (rTpv rStr)) (r := rAdr) (N.kPath.sub (by decide)) (d_lstO (ra := rLeg) (da_all0 ⟨(by walk_at "sc"), fun q1 hq1 => (d_var 0 ⟨_, _, inferInstance, ?_⟩)⟩))
  refine s_fldN (ns := nsB) (f := fApp (fApp fNil (rTpv rStr)) rAdr) (r := rLst rPt) (N.kPath.sub (by decide)) (d_lcP (js := [5]) (ra := rStr) (rb := rPt) (f := pt (fxOf ch)) [("name", 5)] [5] (fun _ => blkOk_by (N := N_Path_init) (sc := defScope s_Path_init) (by decide +kernel)) (w_tpv (d_var 2 ⟨rfl, hsz, fun gg D ys x hx => ?_, (d_var 0 ⟨_, _, inferInstance, ?_⟩)⟩)))
  · obtain ⟨p, hp, _⟩ := hfx x hx
    exact g_name 5 (d_dk (d_recP 1 0 rfl chN_nd (d_keyS (d_var 5 ⟨_, p, inferInstance, hp, ⟨(pt_of hp).symm, rfl⟩⟩))))
  refine s_fldN (ns := nsC) (f := fApp (fApp (fApp fNil (rTpv rStr)) rAdr) (rLst rPt)) (r := rAdr) (N.kPath.sub (by decide)) (d_lstO (ra := rInt) (da_all (d_int (da_all0 ⟨(by walk_at "sc"), fun q2 hq2 => (d_var 0 ⟨_, _, inferInstance, ?_⟩)⟩))))
  have hcut : cutL r (some 1) none = r.drop 1 := cut_from r 1 (by omega)
  have hnw : ¬ (HT.sIx r.length 0 (some 1) = 0 ∧ HT.sIx r.length r.length none = r.length) := fun z => by
    have e1 : HT.sIx r.length 0 (some 1) = min (1 : Int).toNat r.length := rfl
    have := z.1
    rw [e1] at this
    omega
  refine s_for (js := [3, 4]) (w_zipT (ra := rStr) (rb := rStr) T.zip (d_var 2 (d_slice (d_var 2 (do_at (d_int (do_no (sl_t hnw ?_))))))))
  rw [hcut]
  refine ⟨Nat, fun i d => d = i ∧ i + 1 ≤ r.length, fun _ => [some ⟨rAdr, sf⟩, some ⟨rChart, ch⟩, some ⟨(rTpv rStr), r⟩, none, none, none], fun d => [⟨q2, oLst rInt, (List.range (d + 1)).map (bg (fxOf ch) r)⟩, ⟨q1, oLst rLeg, (List.range d).map (lgAt (lgOf ch) r)⟩, ⟨sf, oIns N.cPath ns_Path pF4, (((((), r), q1), r.map (pt (fxOf ch))), q2)⟩], ⟨0, ⟨rfl, by omega⟩, ⟨rfl, rfl, rfl, trivial⟩, rfl⟩, fun g i x d hx hd => (g_tup (gs_cons (g_name 3 (gs_one (g_name 4 ?_))))), fun d hd => ?_⟩
  · obtain ⟨rfl, _⟩ := hd
    obtain ⟨hi, rfl⟩ := pairs_get hx
    obtain ⟨l, hl⟩ := hlg d hi
    have m1 := hfx _ (at_mem (show d < r.length by omega))
    have m2 := hfx _ (at_mem hi)
    dsimp only
    have z : 100000 ≤ sizeLine := by decide
    refine s_expr (d_app (ra := rLeg) (d_fldV N.kPath 0 1 rfl ns_Path_nd ⟨_, _, inferInstance, (d_call N.leg_between (ok_leg_between N T) (da_cons (d_var 1 (da_cons (d_var 3 (da_one (d_var 4 (sw_f ⟨l, hl⟩ ⟨_, _, inferInstance, ?_, ?_⟩))))))))⟩))
    · rw [List.length_map, List.length_range]
      omega
    · have hbl : atI ((List.range (d + 1)).map (bg (fxOf ch) r)) (-1) = some (bg (fxOf ch) r d) := atI_last (by rw [List.getLast?_eq_getElem?, List.length_map, List.length_range]; exact range_map_get (by omega))
      refine s_expr (d_app (ra := rInt) (d_fldV N.kPath 0 3 rfl ns_Path_nd ⟨_, _, inferInstance, (d_bin (d_ix (d_fldV N.kPath 0 3 rfl ns_Path_nd (d_un (d_int (u_neg (i_ls hbl (d_call N.leg_length (ok_leg_length N T) (da_cons (d_var 1 (da_cons (d_var 3 (da_one (d_var 4 (sw_f ⟨m1, m2⟩ (o_add ⟨_, _, inferInstance, ?_, ?_⟩))))))))))))))))⟩))
      · rw [List.length_map, List.length_range]
        omega
      · refine s_next (d + 1) ⟨rfl, by omega⟩ ⟨rfl, rfl, rfl, trivial⟩ ?_
        dsimp only
        rw [show (List.range (d + 1 + 1)).map (bg (fxOf ch) r) = (List.range (d + 1)).map (bg (fxOf ch) r) ++ [bg (fxOf ch) r d + ln (fxOf ch) (at_ r d) (at_ r (d + 1))] by rw [List.range_succ (n := d + 1), List.map_append]; rfl,
          show (List.range (d + 1)).map (lgAt (lgOf ch) r) = (List.range d).map (lgAt (lgOf ch) r) ++ [(lgb (lgOf ch) (at_ r d) (at_ r (d + 1))).getD dfl] by rw [List.range_succ (n := d), List.map_append]; rfl]
        rfl
  · obtain ⟨rfl, _⟩ := hd
    have hzl : (r.zip (r.drop 1)).length = r.length - 1 := by
      rw [List.length_zip, List.length_drop]
      omega
    refine s_frzIn (p := sf) (wo' := oIns N.cPath ns_Path pF3) (x' := (((((), r), q1), r.map (pt (fxOf ch))), (List.range ((r.zip (r.drop 1)).length + 1)).map (bg (fxOf ch) r))) hq2 inferInstance (fun hq ⟨dx, vs, e1, ⟨ws, v, e2, hf, hv⟩, hl⟩ => ⟨dx, vs, e1, ⟨ws, v, e2, hf, ?_⟩, hl⟩) ?_
    · rw [show v = V.ref q2 from hv]
      exact hq
    refine s_frzIn (p := sf) (wo' := oIns N.cPath ns_Path pF) (x' := (((((), r), (List.range (r.zip (r.drop 1)).length).map (lgAt (lgOf ch) r)), r.map (pt (fxOf ch))), (List.range ((r.zip (r.drop 1)).length + 1)).map (bg (fxOf ch) r))) hq1 inferInstance (fun hq ⟨dx, vs, e1, ⟨ws, v, e2, ⟨ws2, v2, e3, ⟨ws3, v3, e4, hf, hv3⟩, hv2⟩, hv⟩, hl⟩ => ⟨dx, vs, e1, ⟨ws, v, e2, ⟨ws2, v2, e3, ⟨ws3, v3, e4, hf, ?_⟩, hv2⟩, hv⟩, hl⟩) ?_
    · rw [show v3 = V.ref q1 from hv3]
      exact hq
    rw [hzl, show r.length - 1 + 1 = r.length by omega]
    exact s_fall (hk (y := ()) rfl)
end
end Law
set_option Elab.async false
set_option linter.all false
set_option maxRecDepth 100000
set_option maxHeartbeats 4100000
/-! PathC: what a path answers (shared by the laws of paths). -/
namespace MP
open PySem L2 Evl Sk
def laI (b : Nat → Int) (p : Int) : Nat → Nat
  | 0 => 0
  | i + 1 => if b (i + 1) ≤ p then i + 1 else laI b p i
theorem laI_ok {b : Nat → Int} (hb : ∀ i j, i ≤ j → b i ≤ b j) (p : Int) : ∀ i, laI b p i ≤ i ∧ (∀ j, 1 ≤ j → j ≤ laI b p i → b j ≤ p) ∧ ∀ j, laI b p i < j → j ≤ i → p < b j
  | 0 => ⟨Nat.le_refl _, fun j h1 h2 => absurd h2 (by show ¬ j ≤ 0; omega), fun j h1 h2 => absurd h1 (by show ¬ 0 < j; omega)⟩
  | i + 1 => by
    obtain ⟨h1, h2, h3⟩ := laI_ok hb p i
    unfold laI
    by_cases h : b (i + 1) ≤ p
    · rw [if_pos h]
      exact ⟨Nat.le_refl _, fun j _ hj => Int.le_trans (hb j (i + 1) hj) h, fun j a c => absurd a (by omega)⟩
    · rw [if_neg h]
      refine ⟨by omega, h2, fun j a c => ?_⟩
      by_cases e : j = i + 1
      · subst e
        omega
      · exact h3 j a (by omega)
theorem laI_la {b : Nat → Int} (hb : ∀ i j, i ≤ j → b i ≤ b j) (p : Int) {m : Nat} (hm : 1 ≤ m) : LaOk b m p (laI b p (m - 1)) := by
  obtain ⟨h1, h2, h3⟩ := laI_ok hb p (m - 1)
  refine ⟨by omega, h2, ?_⟩
  by_cases e : laI b p (m - 1) + 1 = m
  · exact .inl e
  · exact .inr (h3 _ (by omega) (by omega))
abbrev mx (a b : Int) : Int := if b > a then b else a
abbrev mn (a b : Int) : Int := if b < a then b else a
def vec (fx : Fx) (r : List Str) (k : Nat) : P3 := ((pt fx (at_ r (k + 1))).1 - (pt fx (at_ r k)).1, (pt fx (at_ r (k + 1))).2 - (pt fx (at_ r k)).2, bg fx r (k + 1) - bg fx r k)
def la (fx : Fx) (r : List Str) (p : Int) : Nat := laI (bg fx r) p (r.length - 2)
def tot (fx : Fx) (r : List Str) : Int := bg fx r (r.length - 1)
end MP
namespace Law
open PySem L2 Evl Sk MP
local macro_rules | `(tactic| walk_at "sc") => `(tactic| first | omega | assumption | (with_reducible exact mulOk) | (with_reducible exact smOk) | (with_reducible exact ⟨by decide, smOk⟩) | decide | (simp only [List.length_cons, List.length_nil]; decide) | exact divOk (by omega))
section
variable {P : Program} {w : World} {K : PySem.W.Frag} {mg : Str → Option Value} {base : Heap}
theorem atI_nat' {α : Type} {l : List α} {k : Nat} {x : α} (h : l[k]? = some x) : atI l (k : Int) = some x := by
  have hl := (List.getElem?_eq_some_iff.mp h).1
  unfold atI
  rw [atI_ok (by omega) (by omega)]
  show l[((k : Int)).toNat]? = some x
  rw [Int.toNat_natCast]
  exact h
theorem atI_int {α : Type} {l : List α} {i : Int} {x : α} (h0 : 0 ≤ i) (h : l[i.toNat]? = some x) : atI l i = some x := by
  have e : ((i.toNat : Nat) : Int) = i := by omega
  rw [← e]
  exact atI_nat' h
theorem bg_get {fx : Fx} {r : List Str} {k : Nat} (h : k < r.length) : (begins fx r)[k]? = some (bg fx r k) := range_map_get h
theorem lg_get {legs : List Leg} {r : List Str} {k : Nat} (h : k < r.length - 1) : (lgs legs r)[k]? = some (lgAt legs r k) := range_map_get h
theorem pt_get {fx : Fx} {r : List Str} {k : Nat} (h : k < r.length) : (r.map (pt fx))[k]? = some (pt fx (at_ r k)) := by
  rw [List.getElem?_map, at_get h]
  rfl
theorem lgs_len (legs : List Leg) (r : List Str) : (lgs legs r).length = r.length - 1 := by
  unfold lgs
  rw [List.length_map, List.length_range]
abbrev PR := ChV × List Str
abbrev sp_Path_total (C : Addr) (K : Fg) : Sp := spF K [] (fOne (rPath C)) (fun x => RtV x.1 x.2) rInt fun x => tot (fxOf x.1) x.2
theorem sc_Path_total : FnScope ["self"] ["self"] (defScope s_Path_total) := ⟨rfl, rfl, rfl, by decide +kernel, rfl, by decide +kernel, by decide +kernel⟩
theorem ok_Path_total (N : Nm K mg) (T : Bt mg) : FnOk P w K mg base CX0 1 N.mPath_total.f N.mPath_total.fd ["self"] (sp_Path_total N.cPath K) := by
  refine fn_m N.mPath_total.F sc_Path_total [] fun cdv A outer s G H E x Q fam hp hk => ?_
  obtain ⟨ch, r⟩ := x
  have h2 := hp.two
  dsimp only at h2
  show DS _ K ⟨[], _, G, H, []⟩ [some ⟨rPath N.cPath, (ch, r)⟩] _ (defBody s_Path_total) _
  have hl : atI (begins (fxOf ch) r) (-1) = some (tot (fxOf ch) r) := atI_last (by
    rw [List.getLast?_eq_getElem?, show (begins (fxOf ch) r).length = r.length by unfold begins; rw [List.length_map, List.length_range]]
    exact bg_get (by omega))
  exact s_ret (d_ix (d_fldV N.kPath 0 3 rfl ns_Path_nd (d_un (d_int (u_neg (i_lst hl (hk ⟨rfl, rfl⟩)))))))
abbrev sp_Path_begin (C : Addr) (K : Fg) : Sp := spF K [] (fCons (rPath C) (fOne rInt)) (fun x => RtV x.1.1 x.1.2 ∧ 0 ≤ x.2 ∧ x.2.toNat < x.1.2.length) rInt fun x => bg (fxOf x.1.1) x.1.2 x.2.toNat
theorem sc_Path_begin : FnScope ["self", "index"] ["self", "index"] (defScope s_Path_begin) := ⟨rfl, rfl, rfl, by decide +kernel, rfl, by decide +kernel, by decide +kernel⟩
theorem ok_Path_begin (N : Nm K mg) (T : Bt mg) : FnOk P w K mg base CX0 1 N.mPath_begin.f N.mPath_begin.fd ["self", "index"] (sp_Path_begin N.cPath K) := by
  refine fn_m N.mPath_begin.F sc_Path_begin [] fun cdv A outer s G H E x Q fam hp hk => ?_
  obtain ⟨⟨ch, r⟩, i⟩ := x
  obtain ⟨hr, h0, h1⟩ := hp
  dsimp only at h0 h1
  show DS _ K ⟨[], _, G, H, []⟩ [some ⟨rPath N.cPath, (ch, r)⟩, some ⟨rInt, i⟩] _ (defBody s_Path_begin) _
  exact s_ret (d_ix (d_fldV N.kPath 0 3 rfl ns_Path_nd (d_var 1 (i_lst (atI_int h0 (bg_get h1)) (hk ⟨rfl, rfl⟩)))))
abbrev sp_Path_legs (C : Addr) (K : Fg) : Sp := spF K [] (fOne (rPath C)) (fun x => RtV x.1 x.2) rInt fun x => ((x.2.length - 1 : Nat) : Int)
theorem sc_Path_legs : FnScope ["self"] ["self"] (defScope s_Path_legs) := ⟨rfl, rfl, rfl, by decide +kernel, rfl, by decide +kernel, by decide +kernel⟩
theorem ok_Path_legs (N : Nm K mg) (T : Bt mg) : FnOk P w K mg base CX0 1 N.mPath_legs.f N.mPath_legs.fd ["self"] (sp_Path_legs N.cPath K) := by
  refine fn_m N.mPath_legs.F sc_Path_legs [] fun cdv A outer s G H E x Q fam hp hk => ?_
  obtain ⟨ch, r⟩ := x
  show DS _ K ⟨[], _, G, H, []⟩ [some ⟨rPath N.cPath, (ch, r)⟩] _ (defBody s_Path_legs) _
  refine s_ret (d_callB T.len bt_len (da_one (d_fldV N.kPath 0 1 rfl ns_Path_nd (c_lenL (hk ⟨rfl, ?_⟩)))))
  show ((lgs (lgOf ch) r).length : Int) = _
  rw [lgs_len]
abbrev sp_Path_leg (C : Addr) (K : Fg) : Sp := spF K [] (fCons (rPath C) (fOne rInt)) (fun x => RtV x.1.1 x.1.2 ∧ 0 ≤ x.2 ∧ x.2.toNat < x.1.2.length - 1) rLeg fun x => lgAt (lgOf x.1.1) x.1.2 x.2.toNat
theorem sc_Path_leg : FnScope ["self", "index"] ["self", "index"] (defScope s_Path_leg) := ⟨rfl, rfl, rfl, by decide +kernel, rfl, by decide +kernel, by decide +kernel⟩
theorem ok_Path_leg (N : Nm K mg) (T : Bt mg) : FnOk P w K mg base CX0 1 N.mPath_leg.f N.mPath_leg.fd ["self", "index"] (sp_Path_leg N.cPath K) := by
  refine fn_m N.mPath_leg.F sc_Path_leg [] fun cdv A outer s G H E x Q fam hp hk => ?_
  obtain ⟨⟨ch, r⟩, i⟩ := x
  obtain ⟨hr, h0, h1⟩ := hp
  dsimp only at h0 h1
  show DS _ K ⟨[], _, G, H, []⟩ [some ⟨rPath N.cPath, (ch, r)⟩, some ⟨rInt, i⟩] _ (defBody s_Path_leg) _
  exact s_ret (d_ix (d_fldV N.kPath 0 1 rfl ns_Path_nd (d_var 1 (i_lst (atI_int h0 (lg_get h1)) (hk ⟨rfl, rfl⟩)))))
abbrev sp_Path_leg_at (C : Addr) (K : Fg) : Sp := spF K [] (fCons (rPath C) (fOne rInt)) (fun x => RtV x.1.1 x.1.2) rInt fun x => ((la (fxOf x.1.1) x.1.2 x.2 : Nat) : Int)
theorem sc_Path_leg_at : FnScope ["self", "progress", "index"] ["self", "progress"] (defScope s_Path_leg_at) := ⟨rfl, rfl, rfl, by decide +kernel, rfl, by decide +kernel, by decide +kernel⟩
theorem ok_Path_leg_at (N : Nm K mg) (T : Bt mg) : FnOk P w K mg base CX0 1 N.mPath_leg_at.f N.mPath_leg_at.fd ["self", "progress"] (sp_Path_leg_at N.cPath K) := by
  refine fn_m N.mPath_leg_at.F sc_Path_leg_at [] fun cdv A outer s G H E x Q fam hp hk => ?_
  obtain ⟨⟨ch, r⟩, p⟩ := x
  have h2 := hp.two
  dsimp only at h2
  show DS _ K ⟨[], _, G, H, []⟩ [some ⟨rPath N.cPath, (ch, r)⟩, some ⟨rInt, p⟩, none] _ (defBody s_Path_leg_at) _
  refine s_set 2 (d_int ?_)
  refine s_while (δ := Nat) (fun k => k + 1 ≤ r.length - 1 ∧ ∀ j, 1 ≤ j → j ≤ k → bg (fxOf ch) r j ≤ p) (fun k => r.length - k) (fun k => [some ⟨rPath N.cPath, (ch, r)⟩, some ⟨rInt, p⟩, some ⟨rInt, (k : Int)⟩]) (fun _ => []) 0 ⟨by omega, fun j a b => absurd b (by omega)⟩ ⟨rfl, rfl, rfl, trivial⟩ rfl fun k hk2 => ?_
  obtain ⟨k1, k2⟩ := hk2
  have hlen : ((lgs (lgOf ch) r).length : Int) = ((r.length - 1 : Nat) : Int) := by rw [lgs_len]
  refine dt_then (x := decide ((k : Int) + 1 < ((lgs (lgOf ch) r).length : Int)) && decide (bg (fxOf ch) r (k + 1) ≤ p)) (dt_bool (dp_andP (dt_cmp (d_bin (d_var 2 (d_int (o_add (d_callB T.len bt_len (da_one (d_fldV N.kPath 0 1 rfl ns_Path_nd (c_lenL (o_lt ⟨rfl, rfl⟩)))))))))) (fun hb => ?_))) ⟨fun hb => ?_, fun hb => ?_⟩
  · have hb' := of_decide_eq_true hb
    rw [hlen] at hb'
    have hg : atI (begins (fxOf ch) r) ((k : Int) + 1) = some (bg (fxOf ch) r (k + 1)) := atI_nat' (k := k + 1) (bg_get (by omega))
    exact dp_and1 (dt_cmp (d_ix (d_fldV N.kPath 0 3 rfl ns_Path_nd (d_bin (d_var 2 (d_int (o_add (i_lst hg (d_var 1 (o_le ⟨rfl, rfl⟩))))))))))
  · simp only [Bool.and_eq_true, decide_eq_true_eq] at hb
    obtain ⟨hb1, hb2⟩ := hb
    rw [hlen] at hb1
    refine s_aug 2 ip_add (d_int ?_)
    refine s_next (k + 1) ⟨⟨by omega, fun j a c => ?_⟩, by omega⟩ ⟨rfl, rfl, rfl, trivial⟩ rfl
    by_cases e : j = k + 1
    · subst e
      exact hb2
    · exact k2 j a (by omega)
  · refine s_ret (d_var 2 (hk ⟨rfl, ?_⟩))
    show (k : Int) = ((la (fxOf ch) r p : Nat) : Int)
    have hk1 : LaOk (bg (fxOf ch) r) (r.length - 1) p k := by
      refine ⟨k1, k2, ?_⟩
      simp only [Bool.and_eq_false_iff, decide_eq_false_iff_not] at hb
      rcases hb with h | h
      · rw [hlen] at h
        exact .inl (by omega)
      · exact .inr (by omega)
    have hk3 := laI_la (fun i j => bg_mono (fxOf ch) r) p (m := r.length - 1) (by omega)
    rw [show r.length - 1 - 1 = r.length - 2 by omega] at hk3
    rw [la_unique (fun i j => bg_mono (fxOf ch) r) hk1 hk3]
    rfl
end
end Law
set_option Elab.async false
set_option linter.all false
set_option maxRecDepth 100000
set_option maxHeartbeats 4100000
/-! PathV: places and pieces of a path (shared by the laws of paths). -/
namespace Law
open PySem L2 Evl Sk MP
local macro_rules | `(tactic| walk_at "sc") => `(tactic| first | omega | assumption | (with_reducible exact mulOk) | (with_reducible exact smOk) | (with_reducible exact ⟨by decide, smOk⟩) | decide | (simp only [List.length_cons, List.length_nil]; decide) | exact divOk (by omega))
section
variable {P : Program} {w : World} {K : PySem.W.Frag} {mg : Str → Option Value} {base : Heap}
theorem RtV.ptOk {ch : ChV} {r : List Str} (h : RtV ch r) {k : Nat} (hk : k < r.length) : PtOk (pt (fxOf ch) (at_ r k)) := by
  obtain ⟨p, hp, o⟩ := h.fx _ (at_mem hk)
  rw [pt_of hp]
  exact o
theorem RtV.lnLe {ch : ChV} {r : List Str} (h : RtV ch r) {k : Nat} (hk : k + 1 < r.length) : 0 ≤ bg (fxOf ch) r (k + 1) - bg (fxOf ch) r k ∧ bg (fxOf ch) r (k + 1) - bg (fxOf ch) r k ≤ 10000000 := by
  have h1 := ln_nn (fxOf ch) (at_ r k) (at_ r (k + 1))
  have h2 := ln_le (h.ptOk (show k < r.length by omega)) (h.ptOk hk)
  have e : bg (fxOf ch) r (k + 1) = bg (fxOf ch) r k + ln (fxOf ch) (at_ r k) (at_ r (k + 1)) := rfl
  omega
theorem la_lt {fx : Fx} {r : List Str} (h : 2 ≤ r.length) (p : Int) : la fx r p + 1 < r.length := by
  have := (laI_la (fun i j => bg_mono fx r) p (m := r.length - 1) (by omega)).lt
  rw [show r.length - 1 - 1 = r.length - 2 by omega] at this
  unfold la
  omega
abbrev sp_Path_vector (C : Addr) (K : Fg) : Sp := spF K [] (fCons (rPath C) (fOne rInt)) (fun x => RtV x.1.1 x.1.2 ∧ 0 ≤ x.2 ∧ x.2.toNat + 1 < x.1.2.length) rP3 fun x => vec (fxOf x.1.1) x.1.2 x.2.toNat
theorem sc_Path_vector : FnScope ["self", "index", "ax", "ay", "bx", "by"] ["self", "index"] (defScope s_Path_vector) := ⟨rfl, rfl, rfl, by decide +kernel, rfl, by decide +kernel, by decide +kernel⟩
theorem ok_Path_vector (N : Nm K mg) (T : Bt mg) : FnOk P w K mg base CX0 1 N.mPath_vector.f N.mPath_vector.fd ["self", "index"] (sp_Path_vector N.cPath K) := by
  refine fn_m N.mPath_vector.F sc_Path_vector [] fun cdv A outer s G H E x Q fam hp hk => ?_
  obtain ⟨⟨ch, r⟩, i⟩ := x
  obtain ⟨hr, h0, h1⟩ := hp
  dsimp only at h0 h1
  have e1 : (i + 1).toNat = i.toNat + 1 := by omega
  have g1 := atI_int h0 (pt_get (fx := fxOf ch) (show i.toNat < r.length by omega))
  have g2 := atI_int (show 0 ≤ i + 1 by omega) (by rw [e1]; exact pt_get (fx := fxOf ch) h1)
  have g3 := atI_int h0 (bg_get (fx := fxOf ch) (show i.toNat < r.length by omega))
  have g4 := atI_int (show 0 ≤ i + 1 by omega) (by rw [e1]; exact bg_get (fx := fxOf ch) h1)
  show DS _ K ⟨[], _, G, H, []⟩ [some ⟨rPath N.cPath, (ch, r)⟩, some ⟨rInt, i⟩, none, none, none, none] _ (defBody s_Path_vector) _
  refine s_asg (js := [2, 3]) (ra := rPt) (d_ix (d_fldV N.kPath 0 2 rfl ns_Path_nd (d_var 1 (i_lst g1 (g_tup (gs_cons (g_name 2 (gs_one (g_name 3 ?_)))))))))
  refine s_asg (js := [4, 5]) (ra := rPt) (d_ix (d_fldV N.kPath 0 2 rfl ns_Path_nd (d_bin (d_var 1 (d_int (o_add (i_lst g2 (g_tup (gs_cons (g_name 4 (gs_one (g_name 5 ?_))))))))))))
  refine s_ret (d_tup (da_cons (d_bin (d_var 4 (d_var 2 (o_sub (da_cons (d_bin (d_var 5 (d_var 3 (o_sub (da_one (d_bin (d_ix (d_fldV N.kPath 0 3 rfl ns_Path_nd (d_bin (d_var 1 (d_int (o_add (i_lst g4 (d_ix (d_fldV N.kPath 0 3 rfl ns_Path_nd (d_var 1 (i_lst g3 (o_sub (hk ⟨rfl, rfl⟩))))))))))))))))))))))))))
end
end Law
set_option Elab.async false
set_option linter.all false
set_option maxRecDepth 100000
set_option maxHeartbeats 4100000
/-! LwA: the law's own roots, legs, begins (shared by the laws of paths). -/
namespace Law
open PySem L2 Evl Sk MP
local macro_rules | `(tactic| walk_at "sc") => `(tactic| first | omega | assumption | (with_reducible exact mulOk) | (with_reducible exact smOk) | (with_reducible exact ⟨by decide, smOk⟩) | decide | (simp only [List.length_cons, List.length_nil]; decide) | exact divOk (by omega))
section
variable {P : Program} {w : World} {K : PySem.W.Frag} {mg : Str → Option Value} {base : Heap}
abbrev sp_law_root_up (K : Fg) : Sp := spF K [] (fOne rInt) (fun n => 0 ≤ n ∧ n ≤ 10000000 * 10000000) rInt sqrU
theorem sc_law_root_up : FnScope ["_law_n", "_law_low", "_law_high", "_law_k", "_law_middle"] ["_law_n"] (defScope s_law_root_up) := ⟨rfl, rfl, rfl, by decide +kernel, rfl, by decide +kernel, by decide +kernel⟩
theorem ok_law_root_up (N : Nm K mg) (T : Bt mg) : FnOk P w K mg base CX0 1 N.law_root_up.f N.law_root_up.fd ["_law_n"] (sp_law_root_up K) := by
  refine fn_m N.law_root_up.F sc_law_root_up [] fun cdv A outer s G H E x Q fam hp hk => ?_
  obtain ⟨hp0, hp1⟩ := hp
  show DS _ K ⟨[], _, G, H, []⟩ [some ⟨rInt, x⟩, none, none, none, none] _ (defBody s_law_root_up) _
  refine s_set 1 (d_int ?_)
  refine s_set 2 (d_bin (d_int (d_int (o_pow (by walk_at "sc") ?_))))
  refine s_for (js := [3]) (w_rng1 T.range (d_int ⟨(by walk_at "sc"), ?_⟩))
  refine ⟨Int × Int, fun i d => HvOk x i d, fun d => [some ⟨rInt, x⟩, some ⟨rInt, d.1⟩, some ⟨rInt, d.2⟩, none, none], fun _ => [], ⟨(0, 10000000), hv_init hp1, ⟨rfl, rfl, congrArg (Slot.mk rInt) (by decide), trivial⟩, rfl⟩, fun g i y d hx hd => (g_name 3 ?_), fun d hd => ?_⟩
  · obtain ⟨lo, hi⟩ := d
    have hd' := hd
    obtain ⟨l0, lh, h1, _, _, _⟩ := hd'
    dsimp only at l0 lh h1
    dsimp only
    have bm : Bd 30 ((lo + hi) / 2) := Bd.of (by omega) (by omega)
    refine s_set 4 (d_bin (d_bin (d_var 1 (d_var 2 (o_add (d_int (o_div (divOk (by decide)) ?_)))))))
    refine s_ifP (dt_cmp (d_bin (d_var 4 (d_var 4 (o_mul (by walk_at "sc") (d_var 0 (o_ge ⟨rfl, rfl⟩))))))) (fun hb => ?_) (fun hb => ?_)
    · refine s_set 2 (d_var 4 (s_out ?_))
      exact s_next (lo, (lo + hi) / 2) (hv_hi hd (of_decide_eq_true hb)) ⟨rfl, rfl, rfl, trivial⟩ rfl
    · refine s_set 1 (d_bin (d_var 4 (d_int (o_add (s_out ?_)))))
      exact s_next ((lo + hi) / 2 + 1, hi) (hv_lo hp0 hd (of_decide_eq_false hb)) ⟨rfl, rfl, rfl, trivial⟩ rfl
  · exact s_ret (d_var 2 (hk ⟨rfl, hv_end hp0 hd⟩))
end
end Law
set_option Elab.async false
set_option linter.all false
set_option maxRecDepth 100000
set_option maxHeartbeats 4100000
/-! LwL: the law's own roots, legs, begins (shared by the laws of paths). -/
namespace Law
open PySem L2 Evl Sk MP
local macro_rules | `(tactic| walk_at "sc") => `(tactic| first | omega | assumption | (with_reducible exact mulOk) | (with_reducible exact smOk) | (with_reducible exact ⟨by decide, smOk⟩) | decide | (simp only [List.length_cons, List.length_nil]; decide) | exact divOk (by omega))
section
variable {P : Program} {w : World} {K : PySem.W.Frag} {mg : Str → Option Value} {base : Heap}
abbrev laL (bs : List Int) (p : Int) : Nat := laI (fun k => bs.getD k 0) p (bs.length - 2)
abbrev sp_leg_at (K : Fg) : Sp := spF K [] (fCons (rLst rInt) (fOne rInt)) (fun x => 2 ≤ x.1.length ∧ x.1.length ≤ 1000) rInt fun x => ((laL x.1 x.2 : Nat) : Int)
theorem sc_leg_at : FnScope ["_law_begins_here", "_law_progress", "_law_found_here", "_law_k"] ["_law_begins_here", "_law_progress"] (defScope s_leg_at) := ⟨rfl, rfl, rfl, by decide +kernel, rfl, by decide +kernel, by decide +kernel⟩
theorem ok_leg_at (N : Nm K mg) (T : Bt mg) : FnOk P w K mg base CX0 1 N.leg_at.f N.leg_at.fd ["_law_begins_here", "_law_progress"] (sp_leg_at K) := by
  refine fn_m N.leg_at.F sc_leg_at [] fun cdv A outer s G H E x Q fam hp hk => ?_
  obtain ⟨bs, p⟩ := x
  obtain ⟨h2, h3⟩ := hp
  dsimp only at h2 h3
  show DS _ K ⟨[], _, G, H, []⟩ [some ⟨(rLst rInt), bs⟩, some ⟨rInt, p⟩, none, none] _ (defBody s_leg_at) _
  refine s_set 2 (d_int ?_)
  refine s_for (js := [3]) (w_rng2 T.range (d_int (d_bin (d_callB T.len bt_len (da_one (d_var 0 (c_lenL (d_int (o_sub ⟨(by omega), ?_⟩)))))))))
  refine ⟨Nat, fun i d => d = i ∧ i ≤ bs.length - 2, fun d => [some ⟨(rLst rInt), bs⟩, some ⟨rInt, p⟩, some ⟨rInt, ((laI (fun k => bs.getD k 0) p d : Nat) : Int)⟩, none], fun _ => [], ⟨0, ⟨rfl, Nat.zero_le _⟩, ⟨rfl, rfl, rfl, trivial⟩, rfl⟩, fun g i y d hx hd => (g_name 3 ?_), fun d hd => ?_⟩
  · obtain ⟨rfl, _⟩ := hd
    obtain ⟨hlt, ey⟩ := rgI_item hx
    have ey : y = ((d + 1 : Nat) : Int) := by omega
    subst ey
    have g1 : atI bs ((d + 1 : Nat) : Int) = some (bs.getD (d + 1) 0) := atI_getD 0 (by omega) (by omega)
    refine s_ifP (dt_cmp (d_ix (d_var 0 (d_var 3 (i_lst g1 (d_var 1 (o_le ⟨rfl, rfl⟩))))))) (fun hb => ?_) (fun hb => ?_)
    · refine s_set 2 (d_var 3 (s_out ?_))
      refine s_next (d + 1) ⟨rfl, by omega⟩ ⟨rfl, rfl, congrArg (Slot.mk rInt) ?_, trivial⟩ rfl
      have e : laI (fun k => bs.getD k 0) p (d + 1) = d + 1 := if_pos (of_decide_eq_true hb)
      rw [e]
    · refine s_out (s_next (d + 1) ⟨rfl, by omega⟩ ⟨rfl, rfl, congrArg (Slot.mk rInt) ?_, trivial⟩ rfl)
      have e : laI (fun k => bs.getD k 0) p (d + 1) = laI (fun k => bs.getD k 0) p d := if_neg (of_decide_eq_false hb)
      rw [e]
  · obtain ⟨rfl, _⟩ := hd
    refine s_ret (d_var 2 (hk ⟨rfl, ?_⟩))
    rw [rgI_len, show ((bs.length : Int) - 1 - 1).toNat = bs.length - 2 by omega]
end
end Law
set_option Elab.async false
set_option linter.all false
set_option maxRecDepth 100000
set_option maxHeartbeats 4100000
/-! LwB: the law's own lengths, legs, begins (shared by the laws of paths). -/
namespace MP
open PySem L2 Evl Sk
theorem valX_over {κ α : Type} [DecidableEq κ] (k j : κ) (x : α) : ∀ xs : List (κ × α), valX (xs.map fun u => if u.1 = k then (u.1, x) else u) j = (valX xs j).map fun y => if j = k then x else y
  | [] => rfl
  | u :: r => by
    rw [List.map_cons]
    by_cases h : u.1 = j
    · have e1 : valX (u :: r) j = some u.2 := by simp [valX, h]
      rw [e1]
      by_cases hk : u.1 = k
      · rw [if_pos hk]
        have e2 : valX ((u.1, x) :: r.map fun u => if u.1 = k then (u.1, x) else u) j = some x := by simp [valX, h]
        rw [e2]
        simp [h.symm.trans hk]
      · rw [if_neg hk]
        have e2 : valX (u :: r.map fun u => if u.1 = k then (u.1, x) else u) j = some u.2 := by simp [valX, h]
        rw [e2]
        have : ¬ j = k := fun z => hk (h.trans z)
        simp [this]
    · have e1 : valX (u :: r) j = valX r j := by simp [valX, h]
      rw [e1, ← valX_over k j x r]
      by_cases hk : u.1 = k
      · rw [if_pos hk]
        simp [valX, h]
      · rw [if_neg hk]
        simp [valX, h]
theorem valX_any {κ α : Type} [DecidableEq κ] (k : κ) : ∀ xs : List (κ × α), (xs.any fun u => decide (u.1 = k)) = (valX xs k).isSome
  | [] => rfl
  | u :: r => by
    rw [List.any_cons, valX_any k r]
    by_cases h : u.1 = k
    · simp [valX, h]
    · simp [valX, h]
theorem valX_app {κ α : Type} [DecidableEq κ] (k j : κ) (x : α) : ∀ xs : List (κ × α), valX xs k = none → valX (xs ++ [(k, x)]) j = if j = k then some x else valX xs j
  | [], _ => by
    by_cases h : j = k
    · simp [valX, h]
    · have : ¬ k = j := fun z => h z.symm
      simp [valX, h, this]
  | u :: r, hn => by
    have hu : ¬ u.1 = k := fun z => by simp [valX, z] at hn
    have hr : valX r k = none := by
      have e : valX (u :: r) k = valX r k := by simp [valX, hu]
      rw [← e]
      exact hn
    have ih := valX_app k j x r hr
    by_cases h : u.1 = j
    · have : ¬ j = k := fun z => hu (h.trans z)
      simp [valX, h, this]
    · have e1 : valX (u :: r ++ [(k, x)]) j = valX (r ++ [(k, x)]) j := by simp [valX, h]
      have e2 : valX (u :: r) j = valX r j := by simp [valX, h]
      rw [e1, e2]
      exact ih
theorem valX_put {κ α : Type} [DecidableEq κ] (xs : List (κ × α)) (k j : κ) (x : α) : valX (putX xs k x) j = if j = k then some x else valX xs j := by
  unfold putX
  rw [valX_any]
  cases e : valX xs k with
  | none =>
    rw [if_neg (by simp)]
    exact valX_app k j x xs e
  | some y =>
    rw [if_pos (by simp), valX_over]
    by_cases h : j = k
    · subst h
      rw [e]
      simp
    · simp [h]
theorem putX_len {κ α : Type} [DecidableEq κ] (xs : List (κ × α)) (k : κ) (x : α) : (putX xs k x).length ≤ xs.length + 1 := by
  unfold putX
  split
  · rw [List.length_map]
    exact Nat.le_succ _
  · rw [List.length_append]
    exact Nat.le_refl _
end MP
set_option Elab.async false
set_option linter.all false
set_option maxRecDepth 100000
set_option maxHeartbeats 4100000
/-! LwC: the law's own legs, lengths, begins (shared by the laws of paths). -/
namespace Law
open PySem L2 Evl Sk MP
local macro_rules | `(tactic| walk_at "sc") => `(tactic| first | omega | assumption | (with_reducible exact mulOk) | (with_reducible exact smOk) | (with_reducible exact ⟨by decide, smOk⟩) | decide | (simp only [List.length_cons, List.length_nil]; decide) | exact divOk (by omega))
section
variable {P : Program} {w : World} {K : PySem.W.Frag} {mg : Str → Option Value} {base : Heap}
/-- a chart of the law -/
structure ChOk (ch : ChV) : Prop where
  len : (lgOf ch).length ≤ 1000
  pts : ∀ l ∈ lgOf ch, (∃ p, valX (fxOf ch) (Sum.inr l.1) = some p ∧ PtOk p) ∧ ∃ p, valX (fxOf ch) (Sum.inr l.2.1) = some p ∧ PtOk p
  so : ∀ l ∈ lgOf ch, PyData.strOk l.1 = true ∧ PyData.strOk l.2.1 = true ∧ PyData.strOk l.2.2.1 = true
  ap : ∀ l ∈ lgOf ch, 1 ≤ ln (fxOf ch) l.1 l.2.1
abbrev lkey (a b : Str) : List Key := [Sum.inr a, Sum.inr b]
theorem sq_flip (a b : Int) : (a - b) * (a - b) = (b - a) * (b - a) := by
  rw [← Int.neg_mul_neg (a - b) (a - b), Int.neg_sub]
abbrev sp_lengths (K : Fg) : Sp := sp0 K [] (fOne rChart) ChOk (rDt rInt) fun ch L => ∀ l ∈ lgOf ch, valX L (lkey l.1 l.2.1) = some (ln (fxOf ch) l.1 l.2.1)
theorem sc_lengths : FnScope ["_law_chart_here", "_law_lengths_here", "_law_leg_here", "_law_a", "_law_b"] ["_law_chart_here"] (defScope s_lengths) := ⟨rfl, rfl, rfl, by decide +kernel, rfl, by decide +kernel, by decide +kernel⟩
theorem ok_lengths (N : Nm K mg) (T : Bt mg) : FnOk P w K mg base CX0 2 N.lengths.f N.lengths.fd ["_law_chart_here"] (sp_lengths K) := by
  refine fn_m N.lengths.F sc_lengths [] fun cdv A outer s G H E ch Q fam hp hk => ?_
  obtain ⟨hlen, hpts, _, _⟩ := hp
  show DS _ K ⟨[], _, G, H, []⟩ [some ⟨rChart, ch⟩, none, none, none, none] [] (defBody s_lengths) _
  refine s_set 1 (d_dnewT rInt (fun q1 hq1 => ?_))
  refine s_for (js := [2]) (w_lst (ra := rLeg) (d_recP 0 1 rfl chN_nd ?_))
  refine ⟨List (List Key × Int), fun i L => L.length ≤ i ∧ ∀ l ∈ (lgOf ch).take i, valX L (lkey l.1 l.2.1) = some (ln (fxOf ch) l.1 l.2.1), fun _ => [some ⟨rChart, ch⟩, some ⟨rAdr, q1⟩, none, none, none], fun L => [⟨q1, oDt rInt, L⟩], ⟨[], ⟨Nat.le_refl 0, fun l hl => by simp at hl⟩, ⟨rfl, rfl, trivial⟩, rfl⟩, fun g i l L hx hd => (g_name 2 ?_), fun L hd => ?_⟩
  · obtain ⟨hL, hd⟩ := hd
    have hi : i < (lgOf ch).length := (List.getElem?_eq_some_iff.mp hx).1
    obtain ⟨⟨p, hp1, op⟩, ⟨q, hq1, oq⟩⟩ := hpts l (List.mem_of_getElem? hx)
    have b1 : Bd 30 (p.1 - q.1) := Bd.of (by have := op.x0; have := oq.x1; omega) (by have := op.x1; have := oq.x0; omega)
    have b2 : Bd 30 (p.2 - q.2) := Bd.of (by have := op.y0; have := oq.y1; omega) (by have := op.y1; have := oq.y0; omega)
    have hd2 := d2_le op oq
    have hd0 := d2_nn p q
    have e2 : (p.1 - q.1) * (p.1 - q.1) + (p.2 - q.2) * (p.2 - q.2) = d2 p q := by
      unfold d2
      rw [sq_flip p.1, sq_flip p.2]
    have hz : L.length < sizeLine := by
      have : 100000 ≤ sizeLine := by decide
      omega
    refine s_set 3 (d_dk (rc := rPt) (d_recP 0 0 rfl chN_nd (d_keyS (d_ix (d_var (ra := rLeg) (x := l) 2 (d_int (i_tup 0 ⟨_, p, inferInstance, hp1, ?_⟩)))))))
    refine s_set 4 (d_dk (rc := rPt) (d_recP 0 0 rfl chN_nd (d_keyS (d_ix (d_var (ra := rLeg) (x := l) 2 (d_int (i_tup 1 ⟨_, q, inferInstance, hq1, ?_⟩)))))))
    refine s_dputT (rc := rInt) (d_call N.law_root_up (ok_law_root_up N T) (da_one (d_bin (d_bin (d_bin (d_ix (d_var 3 (d_int (i_tup 0 (d_ix (d_var 4 (d_int (i_tup 0 (o_sub (d_bin (d_ix (d_var 3 (d_int (i_tup 0 (d_ix (d_var 4 (d_int (i_tup 0 (o_sub (o_mul (by walk_at "sc") (d_bin (d_bin (d_ix (d_var 3 (d_int (i_tup 1 (d_ix (d_var 4 (d_int (i_tup 1 (o_sub (d_bin (d_ix (d_var 3 (d_int (i_tup 1 (d_ix (d_var 4 (d_int (i_tup 1 (o_sub (o_mul (by walk_at "sc") (o_add (sw_f ⟨by rw [e2]; exact hd0, by rw [e2]; exact hd2⟩ (d_var 1 (d_tupK (da_all (d_keyS (d_ix (d_var (ra := rLeg) (x := l) 2 (d_int (i_tup 0 (da_all (d_keyS (d_ix (d_var (ra := rLeg) (x := l) 2 (d_int (i_tup 1 (da_all0 ⟨(by walk_at "sc"), ⟨_, _, inferInstance, hz, ?_⟩⟩))))))))))))))))))))))))))))))))))))))))))))))))))))))))))))))))
    refine s_next (putX L (lkey l.1 l.2.1) (ln (fxOf ch) l.1 l.2.1)) ⟨Nat.le_trans (putX_len _ _ _) (by omega), fun m hm => ?_⟩ ⟨rfl, rfl, trivial⟩ ?_
    · rw [take_snoc hx] at hm
      rw [valX_put]
      by_cases e : lkey m.1 m.2.1 = lkey l.1 l.2.1
      · rw [if_pos e]
        have e' : m.1 = l.1 ∧ m.2.1 = l.2.1 := by
          simp only [lkey, List.cons.injEq, Sum.inr.injEq, and_true] at e
          exact e
        rw [e'.1, e'.2]
      · rw [if_neg e]
        rcases List.mem_append.mp hm with z | z
        · exact hd m z
        · rw [List.mem_singleton] at z
          exact absurd (by rw [z]) e
    · have e3 : ln (fxOf ch) l.1 l.2.1 = sqrU ((p.1 - q.1) * (p.1 - q.1) + (p.2 - q.2) * (p.2 - q.2)) := by
        unfold ln
        rw [pt_of hp1, pt_of hq1, e2]
      rw [e3]
  · obtain ⟨_, hd⟩ := hd
    have hd' : ∀ l ∈ (lgOf ch).take (lgOf ch).length, valX L (lkey l.1 l.2.1) = some (ln (fxOf ch) l.1 l.2.1) := hd
    rw [List.take_length] at hd'
    exact s_ret (d_var 1 (rt_done hq1 (hk ⟨rfl, hd'⟩)))
end
end Law
set_option Elab.async false
set_option linter.all false
set_option maxRecDepth 100000
set_option maxHeartbeats 4100000
/-! LwD: the law's own begins (shared by the laws of paths). -/
namespace Law
open PySem L2 Evl Sk MP
local macro_rules | `(tactic| walk_at "sc") => `(tactic| first | omega | assumption | (with_reducible exact mulOk) | (with_reducible exact smOk) | (with_reducible exact ⟨by decide, smOk⟩) | decide | (simp only [List.length_cons, List.length_nil]; decide) | exact divOk (by omega))
abbrev LnV := List (List Key × Int)
def bgL (L : LnV) (r : List Str) : Nat → Int
  | 0 => 0
  | k + 1 => bgL L r k + (valX L (lkey (at_ r k) (at_ r (k + 1)))).getD 0
/-- the law's lengths are right -/
abbrev LenOk (ch : ChV) (L : LnV) : Prop := ∀ l ∈ lgOf ch, valX L (lkey l.1 l.2.1) = some (ln (fxOf ch) l.1 l.2.1)
theorem lgb_spec {legs : List Leg} {s e : Str} {l : Leg} (h : lgb legs s e = some l) : l ∈ legs ∧ l.1 = s ∧ l.2.1 = e := by
  unfold lgb at h
  have h1 := List.mem_of_find?_eq_some h
  have h2 := List.find?_some h
  simp only [Bool.and_eq_true, decide_eq_true_eq] at h2
  exact ⟨h1, h2.1, h2.2⟩
theorem LenOk.at {ch : ChV} {L : LnV} {r : List Str} (h : LenOk ch L) (hr : RtV ch r) {k : Nat} (hk : k + 1 < r.length) : valX L (lkey (at_ r k) (at_ r (k + 1))) = some (ln (fxOf ch) (at_ r k) (at_ r (k + 1))) := by
  obtain ⟨l, hl⟩ := hr.lg k hk
  obtain ⟨h1, h2, h3⟩ := lgb_spec hl
  have := h l h1
  rw [h2, h3] at this
  exact this
theorem bgL_eq {ch : ChV} {L : LnV} {r : List Str} (h : LenOk ch L) (hr : RtV ch r) : ∀ {k : Nat}, k < r.length → bgL L r k = bg (fxOf ch) r k
  | 0, _ => rfl
  | k + 1, hk => by
    show bgL L r k + (valX L (lkey (at_ r k) (at_ r (k + 1)))).getD 0 = bg (fxOf ch) r k + ln (fxOf ch) (at_ r k) (at_ r (k + 1))
    rw [bgL_eq h hr (k := k) (by omega), h.at hr hk]
    rfl
theorem bgLs_eq {ch : ChV} {L : LnV} {r : List Str} (h : LenOk ch L) (hr : RtV ch r) : (List.range r.length).map (bgL L r) = begins (fxOf ch) r :=
  List.map_congr_left fun k hk => bgL_eq h hr (List.mem_range.mp hk)
theorem begins_len (fx : Fx) (r : List Str) : (begins fx r).length = r.length := by
  unfold begins
  rw [List.length_map, List.length_range]
theorem laI_congr {b c : Nat → Int} (p : Int) : ∀ {m : Nat}, (∀ k, k ≤ m → b k = c k) → laI b p m = laI c p m
  | 0, _ => rfl
  | m + 1, h => by
    unfold laI
    rw [h (m + 1) (Nat.le_refl _), laI_congr p (m := m) fun k hk => h k (by omega)]
theorem laL_eq {fx : Fx} {r : List Str} (h2 : 2 ≤ r.length) (p : Int) : laL (begins fx r) p = la fx r p := by
  unfold laL la
  rw [begins_len]
  refine laI_congr p fun k hk => ?_
  rw [List.getD_eq_getElem?_getD, bg_get (by omega)]
  rfl
section
variable {P : Program} {w : World} {K : PySem.W.Frag} {mg : Str → Option Value} {base : Heap}
abbrev sp_begins (K : Fg) : Sp := spF K [] (fCons (rDt rInt) (fOne (rTpv rStr))) (fun x => 2 ≤ x.2.length ∧ x.2.length ≤ 1000 ∧ ∀ k, k + 1 < x.2.length → ∃ z, valX x.1 (lkey (at_ x.2 k) (at_ x.2 (k + 1))) = some z) (rLst rInt) fun x => (List.range x.2.length).map (bgL x.1 x.2)
theorem sc_begins : FnScope ["_law_lengths_here", "_law_route", "_law_begins_here", "_law_k"] ["_law_lengths_here", "_law_route"] (defScope s_begins) := ⟨rfl, rfl, rfl, by decide +kernel, rfl, by decide +kernel, by decide +kernel⟩
theorem ok_begins (N : Nm K mg) (T : Bt mg) : FnOk P w K mg base CX0 1 N.begins.f N.begins.fd ["_law_lengths_here", "_law_route"] (sp_begins K) := by
  refine fn_m N.begins.F sc_begins [] fun cdv A outer s G H E x Q fam hp hk => ?_
  obtain ⟨L, r⟩ := x
  obtain ⟨h2, h3, hv⟩ := hp
  dsimp only at h2 h3 hv
  have z1 : 100000 ≤ sizeLine := by decide
  show DS _ K ⟨[], _, G, H, []⟩ [some ⟨(rDt rInt), L⟩, some ⟨(rTpv rStr), r⟩, none, none] [] (defBody s_begins) _
  refine s_set 2 (d_lstO (ra := rInt) (da_all (d_int (da_all0 ⟨(by walk_at "sc"), fun q2 hq2 => ?_⟩))))
  refine s_for (js := [3]) (w_rng1 T.range (d_bin (d_callB T.len bt_len (da_one (d_var 1 (c_lenT (d_int (o_sub ⟨(by omega), ?_⟩))))))))
  refine ⟨Nat, fun i d => d = i ∧ i + 1 ≤ r.length, fun _ => [some ⟨(rDt rInt), L⟩, some ⟨(rTpv rStr), r⟩, some ⟨rAdr, q2⟩, none], fun d => [⟨q2, oLst rInt, (List.range (d + 1)).map (bgL L r)⟩], ⟨0, ⟨rfl, by omega⟩, ⟨rfl, rfl, rfl, trivial⟩, rfl⟩, fun g i x d hx hd => (g_name 3 ?_), fun d hd => ?_⟩
  · obtain ⟨rfl, _⟩ := hd
    obtain ⟨hlt, ex⟩ := rgI_item hx
    have ex : x = (d : Int) := by omega
    subst ex
    obtain ⟨z, hz⟩ := hv d (by omega)
    have g1 : atI ((List.range (d + 1)).map (bgL L r)) (d : Int) = some (bgL L r d) := atI_nat' (range_map_get (by omega))
    have g2 := atI_nat' (at_get (show d < r.length by omega))
    have g3 : atI r ((d : Int) + 1) = some (at_ r (d + 1)) := atI_nat' (k := d + 1) (at_get (by omega))
    refine s_expr (d_app (ra := rInt) (d_var 2 ⟨_, _, inferInstance, (d_bin (d_ix (d_var 2 (d_var 3 (i_ls g1 (d_dt (rc := rInt) (d_var 0 (d_tupK (da_all (d_keyS (d_ix (d_var 1 (d_var 3 (i_tpv g2 (da_all (d_keyS (d_ix (d_var 1 (d_bin (d_var 3 (d_int (o_add (i_tpv g3 (da_all0 ⟨(by walk_at "sc"), ⟨_, z, inferInstance, hz, (o_add ⟨_, _, inferInstance, ?_, ?_⟩)⟩⟩))))))))))))))))))))))))⟩))
    · rw [List.length_map, List.length_range]
      omega
    · refine s_next (d + 1) ⟨rfl, by omega⟩ ⟨rfl, rfl, rfl, trivial⟩ ?_
      rw [show (List.range (d + 1 + 1)).map (bgL L r) = (List.range (d + 1)).map (bgL L r) ++ [bgL L r (d + 1)] by rw [List.range_succ (n := d + 1), List.map_append]; rfl]
      show _ = [Own.mk q2 (oLst rInt) ((List.range (d + 1)).map (bgL L r) ++ [bgL L r d + (valX L (lkey (at_ r d) (at_ r (d + 1)))).getD 0])]
      rw [hz]
      rfl
  · obtain ⟨rfl, _⟩ := hd
    refine s_ret (d_var 2 (rt_done hq2 (hk ⟨rfl, ?_⟩)))
    rw [rgI_len]
    dsimp only
    rw [show ((r.length : Int) - 1).toNat + 1 = r.length by omega]
end
end Law
set_option Elab.async false
set_option linter.all false
set_option maxRecDepth 100000
set_option maxHeartbeats 4100000
/-! LwG: the law's own names and legs (shared by the laws of charts). -/
namespace Law
open PySem L2 Evl Sk MP
local macro_rules | `(tactic| walk_at "sc") => `(tactic| first | omega | assumption | (with_reducible exact mulOk) | (with_reducible exact smOk) | (with_reducible exact ⟨by decide, smOk⟩) | decide | (simp only [List.length_cons, List.length_nil]; decide) | exact divOk (by omega))
theorem strOk_app (x y : Str) : PyData.strOk (x ++ y) = (PyData.strOk x && PyData.strOk y) := by
  unfold PyData.strOk
  show Array.all (x.cps ++ y.cps) _ = _
  rw [Array.all_append]
theorem letters_ok : ∀ c ∈ ("QXAMBZKCTDRE" : Str).cps.toList, PyData.strOk ⟨#[c]⟩ = true := by decide +kernel
theorem nd_ne {α : Type} {l : List α} (h : l.Nodup) {i j : Nat} {a b : α} (ha : l[i]? = some a) (hb : l[j]? = some b) (hij : i ≠ j) : a ≠ b := by
  have h' := List.pairwise_iff_getElem.mp h
  obtain ⟨hi, ea⟩ := List.getElem?_eq_some_iff.mp ha
  obtain ⟨hj, eb⟩ := List.getElem?_eq_some_iff.mp hb
  rw [← ea, ← eb]
  rcases Nat.lt_or_gt_of_ne hij with z | z
  · exact h' i j hi hj z
  · exact fun e => h' j i hj hi z e.symm
abbrev Ls : List Nat := ("QXAMBZKCTDRE" : Str).cps.toList
theorem ls_inj : ∀ a b : Fin 12, Ls.getD a.1 0 = Ls.getD b.1 0 → a = b := by decide +kernel
/-- the letters of the names -/
def LetAt (n : Int) (d : List Str) : Prop := ∀ (j : Nat) (t : Str), d[j]? = some t → t.cps[0]? = some (Ls.getD (((j : Int) + n) % 12).toNat 0)
theorem LetAt.nodup {n : Int} {d : List Str} (h : LetAt n d) (hl : d.length ≤ 12) : d.Nodup := by
  refine List.pairwise_iff_getElem.mpr fun i j hi hj hij e => ?_
  have h1 := h i _ (List.getElem?_eq_getElem hi)
  have h2 := h j _ (List.getElem?_eq_getElem hj)
  rw [e, h2] at h1
  have m : ∀ x : Int, (x % 12).toNat < 12 := fun x => by omega
  have z := ls_inj ⟨_, m ((j : Int) + n)⟩ ⟨_, m ((i : Int) + n)⟩ (Option.some.inj h1)
  have z' := congrArg Fin.val z
  dsimp only at z'
  omega
theorem LetAt.snoc {n : Int} {d : List Str} {c : Nat} {s : Str} (h : LetAt n d) (hc : Ls[(((d.length : Int) + n) % 12).toNat]? = some c) : LetAt n (d ++ [⟨#[c]⟩ ++ s]) := fun j t hj => by
  by_cases e : j < d.length
  · rw [List.getElem?_append_left e] at hj
    exact h j t hj
  · have hl := (List.getElem?_eq_some_iff.mp hj).1
    rw [List.length_append] at hl
    have hl : j < d.length + 1 := hl
    have ej : j = d.length := by omega
    subst ej
    rw [List.getElem?_append_right (Nat.le_refl _), Nat.sub_self] at hj
    have et : ⟨#[c]⟩ ++ s = t := Option.some.inj hj
    rw [← et, List.getD_eq_getElem?_getD, hc]
    show (#[c] ++ s.cps)[0]? = some c
    simp [Array.getElem?_append]
section
variable {P : Program} {w : World} {K : PySem.W.Frag} {mg : Str → Option Value} {base : Heap}
abbrev sp_names (K : Fg) : Sp := sp1 K [] (fCons rAdr (fOne rInt)) (fun x => 2 ≤ x.2 ∧ x.2 ≤ 12) (fun x => ⟨x.1, oSt, ()⟩) (rLst rStr) fun x y => y.length = x.2.toNat ∧ (∀ n ∈ y, PyData.strOk n = true) ∧ y.Nodup
theorem sc_names : FnScope ["_law_state", "_law_many", "_law_shift", "_law_names_here", "_law_k", "_law_letter"] ["_law_state", "_law_many"] (defScope s_names) := ⟨rfl, rfl, rfl, by decide +kernel, rfl, by decide +kernel, by decide +kernel⟩
theorem ok_names (N : Nm K mg) (T : Bt mg) : FnOk P w K mg base CX0 3 N.names.f N.names.fd ["_law_state", "_law_many"] (sp_names K) := by
  refine fn_m N.names.F sc_names [] fun cdv A outer s G H E x Q fam hp hk => ?_
  obtain ⟨st, m⟩ := x
  obtain ⟨h2, h12⟩ := hp
  dsimp only at h2 h12
  have hk' : ∀ {Γ : Gm} {d : List Str}, d.length = m.toNat → (∀ n ∈ d, PyData.strOk n = true) ∧ d.Nodup → RT K ⟨[], _, G, H, []⟩ Γ [⟨st, oSt, ()⟩] (rLst rStr) d _ := fun {Γ d} e e2 => hk ⟨rfl, e, e2⟩
  clear hk
  show DS _ K ⟨[], _, G, H, []⟩ [some ⟨rAdr, st⟩, some ⟨rInt, m⟩, none, none, none, none] [⟨st, oSt, ()⟩] (defBody s_names) _
  refine s_set 2 (d_call N.draw (ok_draw N T) (da_cons (d_var 0 (da_one (d_int (sw_1 ⟨(by walk_at "sc"), (by walk_at "sc")⟩ (fun n hn => ?_)))))))
  obtain ⟨n0, n1⟩ := hn
  dsimp only at n1
  refine s_set 3 (d_lstO (ra := rStr) (da_all0 ⟨(by walk_at "sc"), fun q3 hq3 => ?_⟩))
  refine s_for (js := [4]) (w_rng1 T.range (d_var 1 ⟨(by omega), ?_⟩))
  refine ⟨List Str, fun i d => d.length = i ∧ i ≤ m.toNat ∧ (∀ n ∈ d, PyData.strOk n = true) ∧ LetAt n d, fun _ => [some ⟨rAdr, st⟩, some ⟨rInt, m⟩, some ⟨rInt, n⟩, some ⟨rAdr, q3⟩, none, none], fun d => [⟨q3, oLst rStr, d⟩, ⟨st, oSt, ()⟩], ⟨[], ⟨rfl, Nat.zero_le _, fun n hn => absurd hn List.not_mem_nil, fun j t h => by simp at h⟩, ⟨rfl, rfl, rfl, rfl, trivial⟩, rfl⟩, fun g i x d hx hd => (g_name 4 ?_), fun d hd => ?_⟩
  · obtain ⟨hd1, _, hso, hlet⟩ := hd
    obtain ⟨hlt, ex⟩ := rgI_item hx
    obtain ⟨c, hc, mc, mc2⟩ := atI_lt (xs := ("QXAMBZKCTDRE" : Str).cps.toList) (i := (x + n) % 12) (by omega) (show (x + n) % 12 < 12 by omega)
    refine s_set 5 (d_ix (d_str (d_bin (d_callT T.int bt_int (da_one (d_bin (d_var 4 (d_var 2 (o_add (c_int (d_int (o_mod (by decide) (i_str (by decide) hc ?_)))))))))))))
    refine s_expr (d_app (ra := rStr) (d_var 3 ⟨_, _, inferInstance, (d_bin (d_var 5 (d_call N.pick (ok_pick (ra := rStr) N T) (da_cons (d_var 0 (da_one (d_lst (ra := rStr) (da_all (d_str (da_all (d_str (da_all (d_str (da_all (d_str (da_all (d_str (da_all (d_str (da_all0 ⟨(by walk_at "sc"), (sw_1 ⟨by walk_at "sc", by walk_at "sc"⟩ (fun c2 hc2 => (o_addS ?_ ⟨_, _, inferInstance, ?_, ?_⟩)))⟩))))))))))))))))))))⟩))
    · have hl : c2.length ≤ 4 := by
        dsimp only at hc2
        simp only [List.mem_cons, List.not_mem_nil, or_false] at hc2
        rcases hc2 with rfl | rfl | rfl | rfl | rfl | rfl <;> decide
      have : 100000 ≤ sizeLine := by decide
      show 1 + c2.length ≤ sizeLine
      omega
    · have : 100000 ≤ sizeLine := by decide
      omega
    · have ho : PyData.strOk c2 = true := by
        dsimp only at hc2
        simp only [List.mem_cons, List.not_mem_nil, or_false] at hc2
        rcases hc2 with rfl | rfl | rfl | rfl | rfl | rfl <;> decide +kernel
      refine s_next (d ++ [⟨#[c]⟩ ++ c2]) ⟨by rw [List.length_append, hd1]; rfl, by omega, fun n hn => ?_, hlet.snoc (by rw [hd1, show (i : Int) = x by omega]; exact mc2)⟩ ⟨rfl, rfl, rfl, rfl, trivial⟩ rfl
      rcases List.mem_append.mp hn with z | z
      · exact hso n z
      · rw [List.mem_singleton.mp z, strOk_app, letters_ok c mc, ho]
        rfl
  · obtain ⟨hd1, _, hso, hlet⟩ := hd
    rw [rgI_len] at hd1
    exact s_ret (d_var 3 (rt_done hq3 (hk' hd1 ⟨hso, hlet.nodup (by omega)⟩)))
theorem bt_any : bootBuiltins "any" = some (.builtin "any") := by decide +kernel
structure LegIn (ns : List Str) (ls : List Leg) : Prop where
  s : ∀ l ∈ ls, l.1 ∈ ns
  e : ∀ l ∈ ls, l.2.1 ∈ ns
  o : ∀ l ∈ ls, PyData.strOk l.2.2.1 = true
  n : ∀ l ∈ ls, l.1 ≠ l.2.1
  g : ∀ n, (ls.filter fun l => decide (l.1 = n)).length ≤ 3
theorem LegIn.nil (ns : List Str) : LegIn ns [] := ⟨fun _ h => absurd h List.not_mem_nil, fun _ h => absurd h List.not_mem_nil, fun _ h => absurd h List.not_mem_nil, fun _ h => absurd h List.not_mem_nil, fun _ => Nat.zero_le _⟩
theorem cnt_snoc (ls : List Leg) (l : Leg) (n : Str) : ((ls ++ [l]).filter fun x => decide (x.1 = n)).length = (ls.filter fun x => decide (x.1 = n)).length + if l.1 = n then 1 else 0 := by
  rw [List.filter_append, List.length_append, List.filter_cons]
  by_cases e : l.1 = n
  · rw [if_pos e, if_pos (by simpa using e)]; rfl
  · rw [if_neg e, if_neg (by simpa using e)]; rfl
theorem LegIn.snoc {ns : List Str} {ls : List Leg} {l : Leg} (h : LegIn ns ls) (h1 : l.1 ∈ ns) (h2 : l.2.1 ∈ ns) (h3 : PyData.strOk l.2.2.1 = true) (h4 : l.1 ≠ l.2.1) (h5 : (ls.filter fun x => decide (x.1 = l.1)).length < 3) : LegIn ns (ls ++ [l]) :=
  ⟨fun x hx => by
    rcases List.mem_append.mp hx with z | z
    · exact h.s x z
    · rw [List.mem_singleton.mp z]
      exact h1, fun x hx => by
    rcases List.mem_append.mp hx with z | z
    · exact h.e x z
    · rw [List.mem_singleton.mp z]
      exact h2, fun x hx => by
    rcases List.mem_append.mp hx with z | z
    · exact h.o x z
    · rw [List.mem_singleton.mp z]
      exact h3, fun x hx => by
    rcases List.mem_append.mp hx with z | z
    · exact h.n x z
    · rw [List.mem_singleton.mp z]
      exact h4, fun n => by
    rw [cnt_snoc]
    by_cases e : l.1 = n
    · rw [if_pos e, ← e]; omega
    · rw [if_neg e]; exact h.g n⟩
abbrev rPr : Rp (Int × Int) := rTup (fCons rInt (fOne rInt))
abbrev sp_legs (K : Fg) : Sp := sp1N K [] (fCons rAdr (fOne (rLst rStr))) (fun x => 2 ≤ x.2.length ∧ x.2.length ≤ 12 ∧ x.2.Nodup) (fun x => ⟨x.1, oSt, ()⟩) (oLst rLeg) fun x y => y.length ≤ 36 ∧ LegIn x.2 y
abbrev N_legs : List Str := ["_law_state", "_law_names_here", "_law_legs_here", "_law_many", "_law_k", "_law_j", "_law_other", "_law_levels", "_law_leg_here"]
theorem sc_legs : FnScope N_legs ["_law_state", "_law_names_here"] (defScope s_legs) := ⟨rfl, rfl, rfl, by decide +kernel, rfl, by decide +kernel, by decide +kernel⟩
theorem ok_legs (N : Nm K mg) (T : Bt mg) : FnOk P w K mg base CX0 3 N.legs.f N.legs.fd ["_law_state", "_law_names_here"] (sp_legs K) := by
  refine fn_m N.legs.F sc_legs [] fun cdv A outer s G H E x Q fam hp hk => ?_
  obtain ⟨st, ns⟩ := x
  obtain ⟨h2, h12, hnd⟩ := hp
  dsimp only at h2 h12 hnd
  have hk' : ∀ {Γ : Gm} {q : Addr} {d : List Leg}, d.length ≤ 36 → LegIn ns d → RT K ⟨[], _, G, H, []⟩ Γ [⟨q, oLst rLeg, d⟩, ⟨st, oSt, ()⟩] rAdr q _ := fun {Γ q d} e1 e2 => hk ⟨d, ⟨e1, e2⟩, rfl⟩
  clear hk
  have z1 : 100000 ≤ sizeLine := by decide
  show DS _ K ⟨[], _, G, H, []⟩ [some ⟨rAdr, st⟩, some ⟨(rLst rStr), ns⟩, none, none, none, none, none, none, none] [⟨st, oSt, ()⟩] (defBody s_legs) _
  refine s_set 2 (d_lstO (ra := rLeg) (da_all0 ⟨(by walk_at "sc"), fun q2 hq2 => ?_⟩))
  refine s_set 3 (d_callB T.len bt_len (da_one (d_var 1 (c_lenL ?_))))
  refine s_for (js := [4]) (w_rng1 T.range (d_var 3 ⟨(by omega), ?_⟩))
  rw [Int.toNat_natCast]
  refine ⟨List Leg, fun i d => (d.length ≤ 3 * i ∧ LegIn ns d) ∧ ∀ l ∈ d, l.1 ∈ ns.take i, fun _ => [some ⟨rAdr, st⟩, some ⟨(rLst rStr), ns⟩, some ⟨rAdr, q2⟩, some ⟨rInt, (ns.length : Int)⟩, none, none, none, none, none], fun d => [⟨q2, oLst rLeg, d⟩, ⟨st, oSt, ()⟩], ⟨[], ⟨⟨Nat.le_refl _, LegIn.nil ns⟩, fun l h => absurd h List.not_mem_nil⟩, ⟨rfl, rfl, rfl, rfl, trivial⟩, rfl⟩, fun g i x d hx hd => (g_name 4 ?_), fun d hd => ?_⟩
  · obtain ⟨⟨hd1, hd2⟩, hdt⟩ := hd
    obtain ⟨hlt, ex⟩ := rgI_item hx
    have ex : x = (i : Int) := by omega
    subst ex
    obtain ⟨nk, gk, mk, gk2⟩ := atI_lt (xs := ns) (i := (i : Int)) (by omega) (by omega)
    have gki : ns[i]? = some nk := by
      have := gk2
      rw [Int.toNat_natCast] at this
      exact this
    have htk : ns.take (i + 1) = ns.take i ++ [nk] := by rw [List.take_succ, gki]; rfl
    have hnt : nk ∉ ns.take i := fun z => by
      have h := hnd
      rw [← List.take_append_drop (i + 1) ns, htk, List.append_assoc, List.nodup_append] at h
      exact h.2.2 nk z nk (List.mem_append_left _ (List.mem_singleton.mpr rfl)) rfl
    have h0 : (d.filter fun l : Leg => decide (l.1 = nk)).length = 0 := by
      rw [List.length_eq_zero_iff, List.filter_eq_nil_iff]
      intro l hl z
      have z := of_decide_eq_true z
      exact hnt (by rw [← z]; exact hdt l hl)
    have hdt2 : ∀ l ∈ d, l.1 ∈ ns.take (i + 1) := fun l hl => by rw [htk]; exact List.mem_append_left _ (hdt l hl)
    refine s_for (js := [5]) (w_rng1 T.range (d_call N.pick (ok_pick (ra := rInt) N T) (da_cons (d_var 0 (da_one (d_lst (ra := rInt) (da_all (d_int (da_all (d_int (da_all (d_int (da_all (d_int (da_all (d_int (da_all0 ⟨(by walk_at "sc"), (sw_1 ⟨by walk_at "sc", by walk_at "sc"⟩ (fun c hc => ⟨?_, ?_⟩))⟩)))))))))))))))))
    · dsimp only at hc
      simp only [List.mem_cons, List.not_mem_nil, or_false] at hc
      rcases hc with rfl | rfl | rfl | rfl | rfl <;> decide
    have hc3 : c.toNat ≤ 3 := by
      dsimp only at hc
      simp only [List.mem_cons, List.not_mem_nil, or_false] at hc
      rcases hc with rfl | rfl | rfl | rfl | rfl <;> decide
    refine ⟨List Leg, fun j d => (d.length ≤ 3 * i + j ∧ LegIn ns d) ∧ (d.filter fun l : Leg => decide (l.1 = nk)).length ≤ j ∧ ∀ l ∈ d, l.1 ∈ ns.take (i + 1), fun _ => [some ⟨rAdr, st⟩, some ⟨(rLst rStr), ns⟩, some ⟨rAdr, q2⟩, some ⟨rInt, (ns.length : Int)⟩, some ⟨rInt, (i : Int)⟩, none, none, none, none], fun d => [⟨q2, oLst rLeg, d⟩, ⟨st, oSt, ()⟩], ⟨d, ⟨⟨hd1, hd2⟩, by omega, hdt2⟩, ⟨rfl, rfl, rfl, rfl, rfl, trivial⟩, rfl⟩, fun g2 j x2 d2 hx2 hdd => (g_name 5 ?_), fun d2 hdd => ?_⟩
    · obtain ⟨⟨hd3, hd4⟩, hd5, hd6⟩ := hdd
      obtain ⟨hlt2, _⟩ := rgI_item hx2
      have bk : Bd 10 ((ns.length : Int) - 1) := Bd.of (by omega) (by omega)
      have hlen : d2.length ≤ sizeLine := by omega
      refine s_set 6 (d_ix (d_var 1 (d_bin (d_callT T.int bt_int (da_one (d_bin (d_bin (d_var 4 (d_int (o_add (d_call N.draw (ok_draw N T) (da_cons (d_var 0 (da_one (d_bin (d_var 3 (d_int (o_sub (sw_1 ⟨by omega, (by walk_at "sc")⟩ (fun n hn => (o_add (c_int (d_var 3 (o_mod (by omega) (i_lst (x := ns.getD (((i : Int) + 1 + n) % (ns.length : Int)).toNat Str.empty) (atI_getD _ (Int.emod_nonneg _ (by omega)) (Int.emod_lt_of_pos _ (by omega))) ?_)))))))))))))))))))))))))
      have mo : ns.getD (((i : Int) + 1 + n) % (ns.length : Int)).toNat Str.empty ∈ ns := by
        have hl : (((i : Int) + 1 + n) % (ns.length : Int)).toNat < ns.length := by
          have := Int.emod_nonneg ((i : Int) + 1 + n) (show (ns.length : Int) ≠ 0 by omega)
          have := Int.emod_lt_of_pos ((i : Int) + 1 + n) (show (0 : Int) < ns.length by omega)
          omega
        rw [List.getD_eq_getElem?_getD, List.getElem?_eq_getElem hl]
        exact List.getElem_mem hl
      have hne : nk ≠ ns.getD (((i : Int) + 1 + n) % (ns.length : Int)).toNat Str.empty := by
        obtain ⟨n0, n1⟩ := hn
        dsimp only at n1
        have q1 := Int.emod_nonneg ((i : Int) + 1 + n) (show (ns.length : Int) ≠ 0 by omega)
        have q2 := Int.emod_lt_of_pos ((i : Int) + 1 + n) (show (0 : Int) < ns.length by omega)
        have hl : (((i : Int) + 1 + n) % (ns.length : Int)).toNat < ns.length := by omega
        have q3 : ((i : Int) + 1 + n) % (ns.length : Int) ≠ (i : Int) := by
          rcases Int.lt_or_le ((i : Int) + 1 + n) ns.length with z | z
          · rw [Int.emod_eq_of_lt (by omega) z]
            omega
          · rw [show (i : Int) + 1 + n = ((i : Int) + 1 + n - ns.length) + ns.length by omega, Int.add_emod_right, Int.emod_eq_of_lt (by omega) (by omega)]
            omega
        refine nd_ne hnd gk2 (by rw [List.getD_eq_getElem?_getD, List.getElem?_eq_getElem hl]; rfl) ?_
        omega
      generalize ns.getD (((i : Int) + 1 + n) % (ns.length : Int)).toNat Str.empty = ot at mo hne
      refine s_ifP (dt_notP (dt_val (d_callB T.any bt_any (da_one (d_lcPw (js := [8]) (ra := rLeg) (rb := rBool) (f := fun l : Leg => decide (l.1 = nk) && decide (l.2.1 = ot)) [("_law_leg_here", 8)] [8] (fun _ => blkOk_by (N := N_legs) (sc := defScope s_legs) (by decide +kernel)) (w_own (d_var 2 ⟨_, _, inferInstance, ⟨rfl, hlen, fun gg D ys x hx => (g_name 8 (d_andP (d_cmp (d_ix (d_var (ra := rLeg) (x := x) 8 (d_int (i_tup 0 (d_ix (d_var 1 (d_var 4 (i_lst gk (o_eqS ⟨rfl, rfl⟩)))))))))) (fun hb => (d_one (d_cmp (d_ix (d_var (ra := rLeg) (x := x) 8 (d_int (i_tup 1 (d_var 6 (o_eqS ⟨rfl, rfl⟩))))))))))), (c_anyG ⟨rfl, rfl⟩)⟩⟩))))))) (fun hb => ?_) (fun hb => ?_)
      · refine s_set 7 (d_call N.pick (ok_pick (ra := rPr) N T) (da_cons (d_var 0 (da_one (d_lst (ra := rPr) (da_all (d_tup (da_cons (d_int (da_one (d_int (da_all (d_tup (da_cons (d_int (da_one (d_int (da_all (d_tup (da_cons (d_int (da_one (d_int (da_all (d_tup (da_cons (d_int (da_one (d_int (da_all (d_tup (da_cons (d_int (da_one (d_int (da_all0 ⟨(by walk_at "sc"), (sw_1 ⟨by walk_at "sc", by walk_at "sc"⟩ (fun c5 hc5 => ?_))⟩))))))))))))))))))))))))))))))))))))
        refine s_expr (d_app (ra := rLeg) (d_var 2 ⟨_, _, inferInstance, (d_tup (da_cons (d_ix (d_var 1 (d_var 4 (i_lst gk (da_cons (d_var 6 (da_cons (d_call N.pick (ok_pick (ra := rStr) N T) (da_cons (d_var 0 (da_one (d_lst (ra := rStr) (da_all (d_str (da_all (d_str (da_all (d_str (da_all0 ⟨(by walk_at "sc"), (sw_1 ⟨by walk_at "sc", by walk_at "sc"⟩ (fun c6 hc6 => (da_cons (d_ix (d_var 7 (d_int (i_tup 0 (da_one (d_ix (d_var 7 (d_int (i_tup 1 ⟨_, _, inferInstance, ?_, ?_⟩))))))))))))⟩)))))))))))))))))))))⟩))
        · omega
        · have ho : PyData.strOk c6 = true := by
            dsimp only at hc6
            simp only [List.mem_cons, List.not_mem_nil, or_false] at hc6
            rcases hc6 with rfl | rfl | rfl <;> decide +kernel
          refine s_out (s_next (d2 ++ [(nk, ot, c6, c5.1, c5.2)]) ⟨⟨?_, hd4.snoc mk mo ho hne (by dsimp only; omega)⟩, ?_, fun l hl => ?_⟩ ⟨rfl, rfl, rfl, rfl, rfl, trivial⟩ rfl)
          · rw [List.length_append]
            show d2.length + 1 ≤ _
            omega
          · rw [cnt_snoc, if_pos rfl]
            omega
          · rcases List.mem_append.mp hl with z | z
            · exact hd6 l z
            · rw [List.mem_singleton.mp z, htk]
              exact List.mem_append_right _ (List.mem_singleton.mpr rfl)
      · exact s_out (s_next d2 ⟨⟨by omega, hd4⟩, by omega, hd6⟩ ⟨rfl, rfl, rfl, rfl, rfl, trivial⟩ rfl)
    · obtain ⟨⟨hd3, hd4⟩, hd5, hd6⟩ := hdd
      rw [rgI_len] at hd3
      exact s_next d2 ⟨⟨by omega, hd4⟩, hd6⟩ ⟨rfl, rfl, rfl, rfl, trivial⟩ rfl
  · obtain ⟨⟨hd1, hd2⟩, _⟩ := hd
    rw [rgI_len] at hd1
    exact s_ret (d_var 2 (hk' (by omega) hd2))
end
end Law
set_option Elab.async false
set_option linter.all false
set_option maxRecDepth 100000
set_option maxHeartbeats 4100000
/-! LwH08: the law's own chart, its holds too (k08). -/
namespace Law
open PySem L2 Evl Sk MP
local macro_rules | `(tactic| walk_at "sc") => `(tactic| first | omega | assumption | (with_reducible exact mulOk) | (with_reducible exact smOk) | (with_reducible exact ⟨by decide, smOk⟩) | decide | (simp only [List.length_cons, List.length_nil]; decide) | exact divOk (by omega))
theorem ptb {m y k : Int} (h2 : 2 ≤ m) (h12 : m ≤ 12) (y0 : -20000 ≤ y) (y1 : y ≤ 20000) (k0 : 0 ≤ k) (k1 : k ≤ 12) : -1000000 ≤ m * y + k ∧ m * y + k ≤ 1000000 := by
  have : m = 2 ∨ m = 3 ∨ m = 4 ∨ m = 5 ∨ m = 6 ∨ m = 7 ∨ m = 8 ∨ m = 9 ∨ m = 10 ∨ m = 11 ∨ m = 12 := by omega
  rcases this with rfl | rfl | rfl | rfl | rfl | rfl | rfl | rfl | rfl | rfl | rfl <;> omega
theorem ln_pos {p q : Pt} (h : p.2 ≠ q.2) : 1 ≤ sqrU (d2 p q) := by
  have h1 := sq_nn (q.1 - p.1)
  have h2 := sq_pos (show q.2 - p.2 ≠ 0 by omega)
  obtain ⟨u0, u1, _⟩ := up_ok (d2_nn p q)
  rcases Int.lt_or_le (sqrU (d2 p q)) 1 with z | z
  · have e : sqrU (d2 p q) = 0 := by omega
    rw [e] at u1
    unfold d2 at u1
    omega
  · exact z
/-- the first names have their points -/
def FxAt (m : Int) (fx : Fx) (ns : List Str) (i : Nat) : Prop := ∀ (k : Nat) (n : Str), k < i → ns[k]? = some n → ∃ p, valX fx (Sum.inr n) = some p ∧ PtOk p ∧ p.2 % m = (k : Int)
theorem FxAt.put {m : Int} {fx : Fx} {ns : List Str} {i : Nat} {n : Str} {p : Pt} (h : FxAt m fx ns i) (hnd : ns.Nodup) (hn : ns[i]? = some n) (hp : PtOk p) (hm : p.2 % m = (i : Int)) : FxAt m (putX fx (Sum.inr n) p) ns (i + 1) := fun k t hk ht => by
  rw [valX_put]
  by_cases e : k = i
  · subst e
    rw [hn] at ht
    have et : n = t := Option.some.inj ht
    rw [if_pos (by rw [et])]
    exact ⟨p, rfl, hp, hm⟩
  · rw [if_neg fun z => nd_ne hnd ht hn e (Sum.inr.inj z)]
    exact h k t (by omega) ht
abbrev hoOf (c : ChV) : List (Key × Str) := c.1.1.2.2.2.2
/-- holds lie on legs there and back -/
def HoAt (lg : List Leg) (ho : List (Key × Str)) : Prop := ∀ (n m : Str), valX ho (Sum.inr n) = some m → (∃ l ∈ lg, l.1 = n ∧ l.2.1 = m) ∧ ∃ l ∈ lg, l.1 = m ∧ l.2.1 = n
theorem HoAt.put {lg : List Leg} {ho : List (Key × Str)} (h : HoAt lg ho) {l : Leg} (hl : l ∈ lg) (hb : 0 < (lg.filter fun o : Leg => decide (o.1 = l.2.1) && decide (o.2.1 = l.1)).length) : HoAt lg (putX ho (Sum.inr l.1) l.2.1) := fun n m e => by
  rw [valX_put] at e
  by_cases z : (Sum.inr n : Key) = Sum.inr l.1
  · rw [if_pos z] at e
    have z := Sum.inr.inj z
    have e := Option.some.inj e
    subst z e
    obtain ⟨o, ho⟩ := List.exists_mem_of_length_pos hb
    obtain ⟨h1, h2⟩ := List.mem_filter.mp ho
    simp only [Bool.and_eq_true, decide_eq_true_eq] at h2
    exact ⟨⟨l, hl, rfl, rfl⟩, o, h1, h2.1, h2.2⟩
  · rw [if_neg z] at e
    exact h n m e
/-- a chart of the law, by its names -/
structure ChQ (c : ChV) (m : Int) (ns : List Str) : Prop where
  l2 : 2 ≤ ns.length
  l12 : ns.length ≤ 12
  nd : ns.Nodup
  so : ∀ n ∈ ns, PyData.strOk n = true
  ky : (fxOf c).map (·.1) = ns.map Sum.inr
  fx : FxAt m (fxOf c) ns ns.length
  li : LegIn ns (lgOf c)
  ll : (lgOf c).length ≤ 100
  ho : HoAt (lgOf c) (hoOf c)
theorem ChQ.pt {c : ChV} {m : Int} {ns : List Str} (h : ChQ c m ns) {n : Str} (hn : n ∈ ns) : ∃ p, valX (fxOf c) (Sum.inr n) = some p ∧ PtOk p := by
  obtain ⟨a, ha⟩ := List.getElem?_of_mem hn
  obtain ⟨p, p1, p2, _⟩ := h.fx a _ (List.getElem?_eq_some_iff.mp ha).1 ha
  exact ⟨p, p1, p2⟩
theorem ChQ.ap {c : ChV} {m : Int} {ns : List Str} (h : ChQ c m ns) {x y : Str} (hx : x ∈ ns) (hy : y ∈ ns) (hne : x ≠ y) : 1 ≤ ln (fxOf c) x y := by
  obtain ⟨a, ha⟩ := List.getElem?_of_mem hx
  obtain ⟨b, hb⟩ := List.getElem?_of_mem hy
  obtain ⟨p, p1, _, p3⟩ := h.fx a _ (List.getElem?_eq_some_iff.mp ha).1 ha
  obtain ⟨p', p1', _, p3'⟩ := h.fx b _ (List.getElem?_eq_some_iff.mp hb).1 hb
  have hab : a ≠ b := fun e => hne (by
    subst e
    rw [ha] at hb
    exact Option.some.inj hb)
  unfold ln
  rw [pt_of p1, pt_of p1']
  refine ln_pos fun e => hab ?_
  rw [e] at p3
  omega
theorem ChQ.ok {c : ChV} {m : Int} {ns : List Str} (h : ChQ c m ns) : ChOk c where
  len := Nat.le_trans h.ll (by decide)
  pts := fun l hl => ⟨h.pt (h.li.s l hl), h.pt (h.li.e l hl)⟩
  so := fun l hl => ⟨h.so _ (h.li.s l hl), h.so _ (h.li.e l hl), h.li.o l hl⟩
  ap := fun l hl => h.ap (h.li.s l hl) (h.li.e l hl) (h.li.n l hl)
theorem putX_key {κ α : Type} [DecidableEq κ] {xs : List (κ × α)} {k : κ} {x : α} (h : k ∉ xs.map (·.1)) : (putX xs k x).map (·.1) = xs.map (·.1) ++ [k] := by
  unfold putX
  rw [if_neg, List.map_append]
  · rfl
  · intro z
    obtain ⟨u, hu, e⟩ := List.any_eq_true.mp z
    exact h (List.mem_map.mpr ⟨u, hu, of_decide_eq_true e⟩)
section
variable {P : Program} {w : World} {K : PySem.W.Frag} {mg : Str → Option Value} {base : Heap}
abbrev chOwn (c : ChV) (q ql qh : Addr) : List Own := [⟨q, oRec chN chFO, chO c ql qh⟩, ⟨ql, oLst rLeg, lgOf c⟩, ⟨qh, oLst rHour, hrOf c⟩]
abbrev sp_chart (K : Fg) : Sp := spM K [] (fCons rAdr (fCons rInt (fOne rInt))) (fun x => (2 ≤ x.2.1 ∧ x.2.1 ≤ 12) ∧ 0 ≤ x.2.2 ∧ x.2.2 ≤ 20000) (fun x => [⟨x.1, oSt, ()⟩]) rAdr fun x q O' => ∃ c ns ql qh, (ChQ c x.2.1 ns ∧ hrOf c = []) ∧ O' = chOwn c q ql qh ++ [⟨x.1, oSt, ()⟩]
/-- it is asked -/
theorem sw_chart {B : Bs} {Γ : Gm} {O : List Own} {x : Addr × Int × Int} {f : Own → List Own} {Φ : Addr → List Own → Prop} [ho : OwnAt O x.1 oSt () f] (hp : (2 ≤ x.2.1 ∧ x.2.1 ≤ 12) ∧ 0 ≤ x.2.2 ∧ x.2.2 ≤ 20000)
    (h : ∀ q c ns ql qh, ChQ c x.2.1 ns → hrOf c = [] → q ∉ B.M → ql ∉ B.M → qh ∉ B.M → Φ q (⟨q, oRec chN chFO, chO c ql qh⟩ :: ⟨ql, oLst rLeg, lgOf c⟩ :: ⟨qh, oLst rHour, hrOf c⟩ :: O)) : SW K B Γ O (sp_chart K) [] (fCons rAdr (fCons rInt (fOne rInt))) x rAdr Φ :=
  sw_gF (ho := ho) (own := fun x : Addr × Int × Int => ⟨x.1, oSt, ()⟩) hp (fun q O' ⟨c, ns, ql, qh, ⟨h1, h2⟩, e⟩ => ⟨chOwn c q ql qh, e, fun hf => h q c ns ql qh h1 h2 (hf ⟨q, _, _⟩ List.mem_cons_self) (hf ⟨ql, _, _⟩ (List.mem_cons_of_mem _ List.mem_cons_self)) (hf ⟨qh, _, _⟩ (List.mem_cons_of_mem _ (List.mem_cons_of_mem _ List.mem_cons_self)))⟩) rfl (fun _ h => by cases h)
/-- a chart of one's own is done -/
theorem s_chDone {X : Cx} {B : Bs} {Γ : Gm} {O : List Own} {D : L2.Ends} {rest : List Stmt} (j : Nat) {c : ChV} {q ql qh : Addr} {f : Option Slot → Gm} [hA : At Γ j rAdr q] [hg : SetG Γ j f] (hq : q ∉ B.M) (hl : ql ∉ B.M) (hh : qh ∉ B.M)
    (h : DS X K B (f (some ⟨rChart, c⟩)) O rest D) : DS X K B Γ (⟨q, oRec chN chFO, chO c ql qh⟩ :: ⟨ql, oLst rLeg, lgOf c⟩ :: ⟨qh, oLst rHour, hrOf c⟩ :: O) rest D := by
  obtain ⟨⟨⟨fx, lg, zo, rw_, ho⟩, hr⟩, cp⟩ := c
  refine s_perm (O' := ⟨ql, oLst rLeg, lg⟩ :: ⟨qh, oLst rHour, hr⟩ :: ⟨q, oRec chN chFO, (((fx, ql, zo, rw_, ho), qh), cp)⟩ :: O) ?_ ?_
  · show List.Perm (α := Own) _ (⟨q, oRec chN chFO, (((fx, ql, zo, rw_, ho), qh), cp)⟩ :: ⟨ql, oLst rLeg, lg⟩ :: ⟨qh, oLst rHour, hr⟩ :: O)
    exact ((List.Perm.cons _ (List.Perm.swap _ _ _)).trans (List.Perm.swap _ _ _))
  refine s_frzIn (p := q) (wo' := oRec chN (fApp (fApp (fCons (rDk rPt) (fCons (rLst rLeg) (fCons (rLst rInt) (fCons (rLst rStr) (fOne (rDk rStr)))))) rAdr) (rDk rInt))) (x' := (((fx, lg, zo, rw_, ho), qh), cp)) hl inferInstance (fun hv ⟨vs, e1, ws, v, e2, ⟨ws2, v2, e3, ⟨u1, us1, e4, r1, u2, us2, e5, r2, r3⟩, hv2⟩, hv3⟩ => ⟨vs, e1, ws, v, e2, ⟨ws2, v2, e3, ⟨u1, us1, e4, r1, u2, us2, e5, ?_, r3⟩, hv2⟩, hv3⟩) ?_
  · rw [show u2 = V.ref ql from r2]
    exact hv
  refine s_frzIn (p := q) (wo' := oRec chN chF) (x' := (((fx, lg, zo, rw_, ho), hr), cp)) hh inferInstance (fun hv ⟨vs, e1, ws, v, e2, ⟨ws2, v2, e3, hf, hv2⟩, hv3⟩ => ⟨vs, e1, ws, v, e2, ⟨ws2, v2, e3, hf, ?_⟩, hv3⟩) ?_
  · rw [show v2 = V.ref qh from hv2]
    exact hv
  exact s_done j hq h
abbrev N_chart : List Str := ["_law_state", "_law_many", "_law_size", "_law_names_here", "_law_fixes", "_law_k", "_law_legs_here", "_law_holds", "_law_leg_here", "_law_runways", "_law_chart_here", "_law_back", "_law_name", "_law_other"]
theorem sc_chart : FnScope N_chart ["_law_state", "_law_many", "_law_size"] (defScope s_chart) := ⟨rfl, rfl, rfl, by decide +kernel, rfl, by decide +kernel, by decide +kernel⟩
theorem ok_chart (N : Nm K mg) (T : Bt mg) : FnOk P w K mg base CX0 4 N.chart.f N.chart.fd ["_law_state", "_law_many", "_law_size"] (sp_chart K) := by
  refine fn_m N.chart.F sc_chart [] fun cdv A outer s G H E x Q fam hp hk => ?_
  obtain ⟨st, m, sz⟩ := x
  obtain ⟨⟨h2, h12⟩, s0, s1⟩ := hp
  dsimp only at h2 h12 s0 s1
  have hk' : ∀ {Γ : Gm} {c : ChV} {ns : List Str} {q ql qh : Addr}, ChQ c m ns → hrOf c = [] → RT K ⟨[], _, G, H, []⟩ Γ (chOwn c q ql qh ++ [⟨st, oSt, ()⟩]) rAdr q _ := fun {Γ c ns q ql qh} e e2 => hk ⟨c, ns, ql, qh, ⟨e, e2⟩, rfl⟩
  clear hk
  have z1 : 100000 ≤ sizeLine := by decide
  have bs : Bd 20 sz := Bd.of (by omega) (by omega)
  have bm : Bd 20 m := Bd.of (by omega) (by omega)
  show DS _ K ⟨[], _, G, H, []⟩ [some ⟨rAdr, st⟩, some ⟨rInt, m⟩, some ⟨rInt, sz⟩, none, none, none, none, none, none, none, none, none, none, none] [⟨st, oSt, ()⟩] (defBody s_chart) _
  refine s_set 3 (d_call N.names (ok_names N T) (da_cons (d_var 0 (da_one (d_var 1 (sw_1 ⟨h2, h12⟩ (fun ns hns => ?_)))))))
  obtain ⟨hns', hso, hnd⟩ := hns
  have hns' : ns.length = m.toNat := hns'
  refine s_set 4 (d_dnewK rPt (fun q4 hq4 => ?_))
  refine s_for (js := [5]) (w_rng1 T.range (d_var 1 ⟨(by omega), ?_⟩))
  refine ⟨Fx, fun i d => i ≤ 12 ∧ d.map (·.1) = (ns.take i).map Sum.inr ∧ FxAt m d ns i, fun _ => [some ⟨rAdr, st⟩, some ⟨rInt, m⟩, some ⟨rInt, sz⟩, some ⟨rLst rStr, ns⟩, some ⟨rAdr, q4⟩, none, none, none, none, none, none, none, none, none], fun d => [⟨q4, oDk rPt, d⟩, ⟨st, oSt, ()⟩], ⟨[], ⟨Nat.zero_le _, rfl, fun k n hk => absurd hk (Nat.not_lt_zero _)⟩, ⟨rfl, rfl, rfl, rfl, rfl, trivial⟩, rfl⟩, fun g i x d hx hd => (g_name 5 ?_), fun d hd => ?_⟩
  · obtain ⟨hi, hd1, hd2⟩ := hd
    obtain ⟨hlt, ex⟩ := rgI_item hx
    have ex : x = (i : Int) := by omega
    subst ex
    have hn := List.getElem?_eq_getElem (l := ns) (i := i) (by omega)
    generalize ns[i] = nk at hn
    have gk := atI_nat' hn
    have bn : ∀ n : Int, 0 ≤ n → n < 2 * sz + 1 → Bd 30 (n - sz) := fun n a b => Bd.of (by omega) (by omega)
    refine s_dput (rc := rPt) (d_tup (da_cons (d_bin (d_call N.draw (ok_draw N T) (da_cons (d_var 0 (da_one (d_bin (d_bin (d_int (d_var 2 (o_mul (by walk_at "sc") (d_int (o_add (sw_1 ⟨by omega, smOk⟩ (fun n1 hn1 => (d_var 2 (o_sub (da_one (d_bin (d_bin (d_var 1 (d_bin (d_call N.draw (ok_draw N T) (da_cons (d_var 0 (da_one (d_bin (d_bin (d_int (d_var 2 (o_mul (by walk_at "sc") (d_int (o_add (sw_1 ⟨by omega, smOk⟩ (fun n2 hn2 => (d_var 2 (o_sub (o_mul (by have b2 := bn n2 hn2.1 hn2.2; exact mulOk) (d_var 5 (o_add (d_var 4 (d_keyS (d_ix (d_var 3 (d_var 5 (i_lst gk ⟨_, _, inferInstance, ?_, ?_⟩)))))))))))))))))))))))))))))))))))))))))))))))
    · have e : d.length = (d.map (·.1)).length := by rw [List.length_map]
      rw [e, hd1, List.length_map, List.length_take]
      omega
    obtain ⟨a0, a1⟩ := hn1
    obtain ⟨b0, b1⟩ := hn2
    dsimp only at a1 b1
    obtain ⟨c0, c1⟩ := ptb h2 h12 (y := n2 - sz) (k := (i : Int)) (by omega) (by omega) (by omega) (by omega)
    refine s_next (putX d (Sum.inr nk) (n1 - sz, m * (n2 - sz) + (i : Int))) ⟨by omega, ?_, ?_⟩ ⟨rfl, rfl, rfl, rfl, rfl, trivial⟩ rfl
    · rw [putX_key, hd1, take_snoc hn, List.map_append]
      · rfl
      · rw [hd1]
        intro z
        obtain ⟨t, ht, et⟩ := List.mem_map.mp z
        have et : t = nk := Sum.inr.inj et
        obtain ⟨j, hj⟩ := List.getElem?_of_mem ht
        have hj2 : j < i := by
          have := (List.getElem?_eq_some_iff.mp hj).1
          rw [List.length_take] at this
          omega
        rw [List.getElem?_take_of_lt hj2] at hj
        exact nd_ne hnd hj hn (by omega) et
    exact hd2.put hnd hn ⟨by dsimp only; omega, by dsimp only; omega, c0, c1⟩ (by
      dsimp only
      rw [Int.add_comm, Int.add_mul_emod_self_left, Int.emod_eq_of_lt (by omega) (by omega)])
  obtain ⟨_, hky, hfx⟩ := hd
  rw [rgI_len, ← hns'] at hfx hky
  rw [List.take_length] at hky
  generalize d = fx at hfx hky
  refine s_set 6 (d_call N.legs (ok_legs N T) (da_cons (d_var 0 (da_one (d_var 3 (sw_1NF ⟨by dsimp only; omega, by dsimp only; omega, hnd⟩ (fun ql lg hlg hql => ?_)))))))
  obtain ⟨hl36, hli⟩ := hlg
  dsimp only at hli
  refine s_set 7 (d_dnewK rStr (fun q7 hq7 => ?_))
  refine s_forO (js := [8]) (w_own (ra := rLeg) (d_var 6 ⟨_, _, inferInstance, ?_⟩))
  refine ⟨List (Key × Str), fun i d => i ≤ lg.length ∧ d.length ≤ i ∧ HoAt lg d, fun _ => [some ⟨rAdr, st⟩, some ⟨rInt, m⟩, some ⟨rInt, sz⟩, some ⟨rLst rStr, ns⟩, some ⟨rAdr, q4⟩, none, some ⟨rAdr, ql⟩, some ⟨rAdr, q7⟩, none, none, none, none, none, none], fun d => [⟨q7, oDk rStr, d⟩, ⟨ql, oLst rLeg, lg⟩, ⟨q4, oDk rPt, fx⟩, ⟨st, oSt, ()⟩], ⟨[], ⟨Nat.zero_le _, Nat.le_refl _, fun n m e => by cases e⟩, ⟨rfl, rfl, rfl, rfl, rfl, rfl, rfl, trivial⟩, rfl⟩, fun _ _ _ => List.mem_cons_of_mem _ List.mem_cons_self, fun g i l d hx hd => (g_name 8 ?_), fun d hd => ?_⟩
  · obtain ⟨hi, hd1, hd3⟩ := hd
    have hlt := (List.getElem?_eq_some_iff.mp hx).1
    refine s_lcFw 11 (js := [13]) (ra := rLeg) (rb := rLeg) (f := fun l : Leg => l) (g := fun o : Leg => decide (o.1 = l.2.1) && decide (o.2.1 = l.1)) [("_law_other", 13)] [13] (fun _ => blkOk_by (N := N_chart) (sc := defScope s_chart) (by decide +kernel)) (w_own (d_var 6 ⟨_, _, inferInstance, rfl, (by omega), fun gg D ys x hx => (g_name 13 (dts_one (dt_then (dt_bool (dp_andP (dt_cmp (d_ix (d_var (ra := rLeg) (x := x) 13 (d_int (i_tup 0 (d_ix (d_var (ra := rLeg) (x := l) 8 (d_int (i_tup 1 (o_eqS ⟨rfl, rfl⟩)))))))))) (fun hb => (dp_and1 (dt_cmp (d_ix (d_var (ra := rLeg) (x := x) 13 (d_int (i_tup 1 (d_ix (d_var (ra := rLeg) (x := l) 8 (d_int (i_tup 0 (o_eqS ⟨rfl, rfl⟩)))))))))))))) ⟨rfl, rfl, fun hb => (d_var 13 ⟨rfl, rfl⟩)⟩))), ?_⟩))
    refine s_if (dt_bool (dp_and (dt_cmp (d_callB T.len bt_len (da_one (d_var 11 (c_lenL (d_int (o_gt ⟨fun hb => (dp_and1 (dt_cmp (d_call N.draw (ok_draw N T) (da_cons (d_var 0 (da_one (d_int (sw_1 ⟨(by walk_at "sc"), (by walk_at "sc")⟩ (fun n hn => (d_int (o_eqI ⟨fun hb2 => ?_, fun hb2 => ?_⟩))))))))))), fun hb => ⟨fun e => Bool.noConfusion e, fun _ => ?_⟩⟩)))))))))
    · have hb := of_decide_eq_true hb
      rw [List.map_id'] at hb
      refine s_dput (rc := rStr) (d_ix (d_var (ra := rLeg) (x := l) 8 (d_int (i_tup 1 (d_var 7 (d_keyS (d_ix (d_var (ra := rLeg) (x := l) 8 (d_int (i_tup 0 ⟨_, _, inferInstance, ?_, ?_⟩))))))))))
      · omega
      exact s_out (s_next (putX d (Sum.inr l.1) l.2.1) ⟨by omega, Nat.le_trans (putX_len _ _ _) (by omega), hd3.put (List.mem_of_getElem? hx) (by omega)⟩ ⟨rfl, rfl, rfl, rfl, rfl, rfl, rfl, trivial⟩ rfl)
    · exact s_out (s_next d ⟨by omega, by omega, hd3⟩ ⟨rfl, rfl, rfl, rfl, rfl, rfl, rfl, trivial⟩ rfl)
    · exact s_out (s_next d ⟨by omega, by omega, hd3⟩ ⟨rfl, rfl, rfl, rfl, rfl, rfl, rfl, trivial⟩ rfl)
  have hho : HoAt lg d := hd.2.2
  clear hd
  generalize d = hs at hho
  refine s_lcO 9 (js := [12]) (ra := rStr) (rb := rStr) [("_law_name", 12)] [12] (fun _ => blkOk_by (N := N_chart) (sc := defScope s_chart) (by decide +kernel)) (w_lst (d_var 3 ⟨Unit, fun i ys _ => ys.length ≤ i, fun _ => [⟨q7, oDk rStr, hs⟩, ⟨ql, oLst rLeg, lg⟩, ⟨q4, oDk rPt, fx⟩, ⟨st, oSt, ()⟩], ⟨(), Nat.le_refl _, rfl⟩, fun g D i x ys d hx hd => (g_name 12 (dts_one (dt_cmp (d_call N.draw (ok_draw N T) (da_cons (d_var 0 (da_one (d_int (sw_1 ⟨(by walk_at "sc"), (by walk_at "sc")⟩ (fun n hn => (d_int (o_eqI ⟨fun hb => (d_var 12 ⟨(), rfl, ?_, ?_⟩), fun hb => ⟨(), rfl, ?_⟩⟩)))))))))))), fun q9 ys d hM hd2 => ?_⟩))
  · have := (List.getElem?_eq_some_iff.mp hx).1
    omega
  · show (ys ++ [x]).length ≤ i + 1
    rw [List.length_append]
    exact Nat.succ_le_succ hd
  · exact Nat.le_succ_of_le hd
  refine s_perm (O' := [⟨q4, oDk rPt, fx⟩, ⟨q7, oDk rStr, hs⟩, ⟨q9, oLst rStr, ys⟩, ⟨ql, oLst rLeg, lg⟩, ⟨st, oSt, ()⟩]) ?_ ?_
  · show List.Perm (α := Own) _ ([⟨q9, oLst rStr, ys⟩, ⟨q7, oDk rStr, hs⟩, ⟨ql, oLst rLeg, lg⟩] ++ ⟨q4, oDk rPt, fx⟩ :: [⟨st, oSt, ()⟩])
    exact (List.perm_middle.trans (List.Perm.cons _ (List.Perm.swap _ _ _))).symm
  refine s_done 4 hq4 ?_
  refine s_done 7 hq7 ?_
  refine s_set 10 (d_disp (ns := chN5) (f := chFO5) chN5_nd (fun i => pps_cons pe_str (WE.pe i) (pps_cons pe_str (WE.pe i) (pps_cons pe_str (WE.pe i) (pps_cons pe_str (WE.pe i) (pps_cons pe_str (WE.pe i) pps_nil))))) fun q hq => dd_cons (d_var 4 (dd_cons (d_var 6 (dd_cons (d_lst (ra := rInt) (da_all0 ⟨(by decide), dd_cons (d_slice (d_var 9 (do_no (do_at (d_int (sl_l (rb := rStr) (dd_one (d_var 7 ⟨_, rfl, ?_⟩))))))))⟩)))))))
  refine s_recNew (rc := rAdr) (d_lstO (ra := rHour) (da_all0 ⟨(by decide), fun qh hqh => d_var 10 ⟨_, _, inferInstance, ?_⟩⟩))
  refine s_recNew (rc := rDk rInt) (d_done (d_dnewK rInt (fun p hp => ⟨_, _, rfl, hp, d_var 10 ⟨_, _, inferInstance, ?_⟩⟩)))
  have hq' : ChQ ((((fx, lg, [], cutL ys none (some 4), hs), []), []) : ChV) m ns := ⟨by omega, by omega, hnd, hso, hky, hfx, hli, by show lg.length ≤ 100; omega, hho⟩
  refine s_perm (O' := [⟨q9, oLst rStr, ys⟩, ⟨q, oRec chN chFO, chO ((((fx, lg, [], cutL ys none (some 4), hs), []), []) : ChV) ql qh⟩, ⟨ql, oLst rLeg, lg⟩, ⟨qh, oLst rHour, []⟩, ⟨st, oSt, ()⟩]) ?_ ?_
  · show List.Perm (α := Own) _ (⟨qh, oLst rHour, []⟩ :: ⟨q, oRec chN chFO, chO ((((fx, lg, [], cutL ys none (some 4), hs), []), []) : ChV) ql qh⟩ :: ⟨q9, oLst rStr, ys⟩ :: ⟨ql, oLst rLeg, lg⟩ :: [⟨st, oSt, ()⟩])
    have p1 : List.Perm (α := Own) (⟨qh, oLst rHour, []⟩ :: ([⟨q, oRec chN chFO, chO ((((fx, lg, [], cutL ys none (some 4), hs), []), []) : ChV) ql qh⟩, ⟨q9, oLst rStr, ys⟩, ⟨ql, oLst rLeg, lg⟩] ++ [⟨st, oSt, ()⟩])) ([⟨q, oRec chN chFO, chO ((((fx, lg, [], cutL ys none (some 4), hs), []), []) : ChV) ql qh⟩, ⟨q9, oLst rStr, ys⟩, ⟨ql, oLst rLeg, lg⟩] ++ ⟨qh, oLst rHour, []⟩ :: [⟨st, oSt, ()⟩]) := List.perm_middle.symm
    exact (p1.trans (List.Perm.swap _ _ _)).symm
  refine s_sub (O' := chOwn ((((fx, lg, [], cutL ys none (some 4), hs), []), []) : ChV) q ql qh ++ [⟨st, oSt, ()⟩]) (List.Sublist.cons _ (List.Sublist.refl _)) (s_ret (d_var 10 (hk' hq' rfl)))
end
end Law
set_option Elab.async false
set_option linter.all false
set_option maxRecDepth 100000
set_option maxHeartbeats 4100000
/-! LwI: the law's own walks along legs (shared by the laws of paths). -/
namespace Sk
end Sk
namespace Law
open PySem L2 Evl Sk MP
local macro_rules | `(tactic| walk_at "sc") => `(tactic| first | omega | assumption | (with_reducible exact mulOk) | (with_reducible exact smOk) | (with_reducible exact ⟨by decide, smOk⟩) | decide | (simp only [List.length_cons, List.length_nil]; decide) | exact divOk (by omega))
theorem at_app1 {r : List Str} {x : Str} {k : Nat} (h : k < r.length) : at_ (r ++ [x]) k = at_ r k := by
  unfold at_
  rw [List.getD_eq_getElem?_getD, List.getD_eq_getElem?_getD, List.getElem?_append_left h]
theorem at_app2 {r : List Str} {x : Str} : at_ (r ++ [x]) r.length = x := by
  unfold at_
  rw [List.getD_eq_getElem?_getD, List.getElem?_append_right (Nat.le_refl _), Nat.sub_self]
  rfl
/-- a way along legs -/
structure WkOk (ch : ChV) (r : List Str) : Prop where
  one : 1 ≤ r.length
  fx : ∀ n ∈ r, ∃ p, valX (fxOf ch) (Sum.inr n) = some p ∧ PtOk p
  lg : ∀ k, k + 1 < r.length → ∃ l, lgb (lgOf ch) (at_ r k) (at_ r (k + 1)) = some l
theorem lgb_some {legs : List Leg} {l : Leg} (h : l ∈ legs) : ∃ l', lgb legs l.1 l.2.1 = some l' := by
  unfold lgb
  rw [← Option.isSome_iff_exists, List.find?_isSome]
  exact ⟨l, h, by simp⟩
theorem WkOk.snoc {ch : ChV} {r : List Str} (hc : ChOk ch) (h : WkOk ch r) {l : Leg} (hl : l ∈ lgOf ch) (e : l.1 = at_ r (r.length - 1)) : WkOk ch (r ++ [l.2.1]) where
  one := by rw [List.length_append]; exact Nat.le_add_left _ _
  fx := fun n hn => by
    rcases List.mem_append.mp hn with z | z
    · exact h.fx n z
    · rw [List.mem_singleton.mp z]
      exact (hc.pts l hl).2
  lg := fun k hk => by
    rw [List.length_append] at hk
    have hk : k + 1 < r.length + 1 := hk
    have h1 := h.one
    by_cases e2 : k + 1 < r.length
    · rw [at_app1 (by omega), at_app1 e2]
      exact h.lg k e2
    · have ek : k = r.length - 1 := by omega
      have ek2 : k + 1 = r.length := by omega
      rw [at_app1 (by omega), ek2, at_app2, ek, ← e]
      exact lgb_some hl
theorem RtV.so {ch : ChV} {r : List Str} (hc : ChOk ch) (h : RtV ch r) : ∀ n ∈ r, PyData.strOk n = true := fun n hn => by
  obtain ⟨k, hk⟩ := List.getElem?_of_mem hn
  have hl := (List.getElem?_eq_some_iff.mp hk).1
  have e : n = at_ r k := by
    have := at_get hl
    rw [hk] at this
    exact Option.some.inj this
  have h2 := h.two
  rw [e]
  by_cases z : k + 1 < r.length
  · obtain ⟨l, q⟩ := h.lg k z
    obtain ⟨q1, q2, _⟩ := lgb_spec q
    rw [← q2]
    exact (hc.so l q1).1
  · obtain ⟨l, q⟩ := h.lg (k - 1) (by omega)
    obtain ⟨q1, _, q3⟩ := lgb_spec q
    rw [show k - 1 + 1 = k by omega] at q3
    rw [← q3]
    exact (hc.so l q1).2.1
end Law
set_option Elab.async false
set_option linter.all false
/-! M10: the plain law of winds: corners of a step, the last wind that has begun. -/
namespace M10
abbrev W4 := Int × Int × Int × Int
abbrev ab (x : Int) : Int := if x < 0 then -x else x
theorem ab0 (x : Int) : 0 ≤ ab x := by unfold ab; split <;> omega
theorem highC (wx e dx : Int) : ∃ x, (x = wx - e ∨ x = wx + e) ∧ x * dx = wx * dx + e * ab dx := by
  unfold ab
  split
  · exact ⟨wx - e, .inl rfl, by rw [Int.sub_mul, Int.mul_neg]; omega⟩
  · exact ⟨wx + e, .inr rfl, by rw [Int.add_mul]⟩
theorem within (wx e dx x : Int) (h1 : wx - e ≤ x) (h2 : x ≤ wx + e) : wx * dx - e * ab dx ≤ x * dx ∧ x * dx ≤ wx * dx + e * ab dx := by
  unfold ab
  split
  · rename_i h
    have h3 := Int.mul_le_mul_of_nonneg_right (show x - wx ≤ e by omega) (show 0 ≤ -dx by omega)
    have h4 := Int.mul_le_mul_of_nonneg_right (show -e ≤ x - wx by omega) (show 0 ≤ -dx by omega)
    simp only [Int.sub_mul, Int.mul_neg, Int.neg_mul] at h3 h4 ⊢
    omega
  · rename_i h
    have h3 := Int.mul_le_mul_of_nonneg_right (show x - wx ≤ e by omega) (show 0 ≤ dx by omega)
    have h4 := Int.mul_le_mul_of_nonneg_right (show -e ≤ x - wx by omega) (show 0 ≤ dx by omega)
    simp only [Int.sub_mul, Int.neg_mul] at h3 h4 ⊢
    omega
abbrev push (dx dy wx wy : Int) : Int := wx * dx + wy * dy
abbrev doubt (dx dy e : Int) : Int := e * (ab dx + ab dy)
theorem inside {dx dy wx wy e x y : Int} (h1 : wx - e ≤ x) (h2 : x ≤ wx + e) (h3 : wy - e ≤ y) (h4 : y ≤ wy + e) : push dx dy wx wy - doubt dx dy e ≤ x * dx + y * dy ∧ x * dx + y * dy ≤ push dx dy wx wy + doubt dx dy e := by
  have a := within wx e dx x h1 h2
  have b := within wy e dy y h3 h4
  unfold push doubt
  rw [Int.mul_add]
  omega
/-- the four pushes -/
abbrev four (dx dy len wx wy e : Int) : List Int := [wx - e, wx + e].flatMap fun x => [wy - e, wy + e].map fun y => (x * dx + y * dy) / len
theorem mem4 {dx dy len wx wy e : Int} {m : Int} : m ∈ four dx dy len wx wy e ↔ ∃ x y, (x = wx - e ∨ x = wx + e) ∧ (y = wy - e ∨ y = wy + e) ∧ m = (x * dx + y * dy) / len := by
  unfold four
  simp only [List.mem_flatMap, List.mem_map, List.mem_cons, List.not_mem_nil, or_false]
  constructor
  · rintro ⟨x, hx, y, hy, e⟩
    exact ⟨x, y, hx, hy, e.symm⟩
  · rintro ⟨x, y, hx, hy, e⟩
    exact ⟨x, hx, y, hy, e.symm⟩
theorem most {dx dy len wx wy e m : Int} (hl : 0 < len) (he : 0 ≤ e) (h1 : m ∈ four dx dy len wx wy e) (h2 : ∀ y ∈ four dx dy len wx wy e, y ≤ m) : m = (push dx dy wx wy + doubt dx dy e) / len := by
  refine Int.le_antisymm ?_ ?_
  · obtain ⟨x, y, hx, hy, rfl⟩ := mem4.mp h1
    refine Int.ediv_le_ediv hl ?_
    exact (inside (by omega) (by omega) (by omega) (by omega)).2
  · obtain ⟨x, hx, ex⟩ := highC wx e dx
    obtain ⟨y, hy, ey⟩ := highC wy e dy
    have h3 := h2 _ (mem4.mpr ⟨x, y, hx, hy, rfl⟩)
    have e1 : x * dx + y * dy = push dx dy wx wy + doubt dx dy e := by
      unfold push doubt
      rw [Int.mul_add]
      omega
    rw [e1] at h3
    exact h3
/-- the last wind that has begun -/
def stp (t : Int) (f w : W4) : W4 := if w.1 ≤ t then w else f
theorem fold_last (t : Int) : ∀ (ws : List W4) (f : W4), ws.foldl (stp t) f = ((ws.filter fun w => decide (w.1 ≤ t)).getLast?).getD f
  | [], f => rfl
  | w :: ws, f => by
    rw [List.foldl_cons, fold_last t ws, List.filter_cons]
    unfold stp
    by_cases h : w.1 ≤ t
    · rw [if_pos h, if_pos (by simpa using h)]
      rw [List.getLast?_cons]
      rfl
    · rw [if_neg h, if_neg (by simpa using h)]
theorem take_fold (t : Int) {ws : List W4} {i : Nat} {w f : W4} (h : ws[i]? = some w) : (ws.take (i + 1)).foldl (stp t) f = stp t ((ws.take i).foldl (stp t) f) w := by
  rw [List.take_add_one, h, List.foldl_append]
  rfl
end M10
set_option Elab.async false
set_option linter.all false
set_option maxRecDepth 100000
set_option maxHeartbeats 4100000
/-! MB: the next box, plainly (shared by the laws of tubes). -/
namespace MP
open PySem L2 Evl Sk M10
abbrev K5 := Int × Int × Int × Int × Int
abbrev B4 := Int × Int × Int × Int
abbrev windAt (ws : List W4) (t : Int) : W4 := ws.foldl (stp t) (ws.getD 0 (0, 0, 0, 0))
/-- the law's own: the last one that has begun -/
theorem wind_last {ws : List W4} {t : Int} {w : W4} (h : ws[0]? = some w) (h0 : w.1 ≤ t) : (ws.filter fun w => decide (w.1 ≤ t)).getLast? = some (windAt ws t) := by
  unfold windAt
  rw [fold_last]
  cases ws with
  | nil => simp at h
  | cons a r =>
    have e : a = w := by simpa using h
    subst e
    rw [List.filter_cons, if_pos (decide_eq_true h0), List.getLast?_cons]
    rfl
def stpB (v : P3) (sp sl : Int) (w : W4) : Int × Int := (sp - sl + (push v.1 v.2.1 w.2.1 w.2.2.1 - doubt v.1 v.2.1 w.2.2.2) / v.2.2, sp + sl + (push v.1 v.2.1 w.2.1 w.2.2.1 + doubt v.1 v.2.1 w.2.2.2) / v.2.2)
theorem stpB_le {v : P3} {sp sl : Int} {w : W4} (hl : 0 < v.2.2) (h0 : 0 ≤ sl) (he : 0 ≤ w.2.2.2) : (stpB v sp sl w).1 ≤ (stpB v sp sl w).2 := by
  have h1 := ab0 v.1
  have h2 := ab0 v.2.1
  have h3 : 0 ≤ doubt v.1 v.2.1 w.2.2.2 := Int.mul_nonneg he (by omega)
  have h4 := Int.ediv_le_ediv hl (show push v.1 v.2.1 w.2.1 w.2.2.1 - doubt v.1 v.2.1 w.2.2.2 ≤ push v.1 v.2.1 w.2.1 w.2.2.1 + doubt v.1 v.2.1 w.2.2.2 by omega)
  unfold stpB
  dsimp only
  omega
abbrev bnd (fx : Fx) (r : List Str) (sp sl : Int) (w : W4) (k : Nat) : Int × Int := stpB (vec fx r k) sp sl w
def inR (lv : Int) (l : Leg) : Int := mn (mx lv l.2.2.2.1) l.2.2.2.2
def tgt (legs : List Leg) (r : List Str) (lv : Int) (k : Nat) : Int := if k + 2 < r.length then inR (inR lv (lgAt legs r k)) (lgAt legs r (k + 1)) else inR lv (lgAt legs r k)
def tow (lv g rt : Int) : Int := if lv < g then mn (lv + rt) g else mx (lv - rt) g
def nlv (k : K5) (g dn up : Int) : Int × Int := (tow dn g (if dn < g then k.2.2.2.1 else k.2.2.2.2), tow up g (if up < g then k.2.2.2.2 else k.2.2.2.1))
/-! ### the least, the greatest of what S says -/
def IsMin (S : Int → Prop) (m : Int) : Prop := S m ∧ ∀ x, S x → m ≤ x
def IsMax (S : Int → Prop) (m : Int) : Prop := S m ∧ ∀ x, S x → x ≤ m
theorem IsMin.eq {S : Int → Prop} {a b : Int} (h : IsMin S a) (h' : IsMin S b) : a = b := Int.le_antisymm (h.2 _ h'.1) (h'.2 _ h.1)
theorem IsMax.eq {S : Int → Prop} {a b : Int} (h : IsMax S a) (h' : IsMax S b) : a = b := Int.le_antisymm (h'.2 _ h.1) (h.2 _ h'.1)
theorem IsMin.sub {S T : Int → Prop} {a b : Int} (h : IsMin S a) (h' : IsMin T b) (hs : ∀ x, T x → S x) : a ≤ b := h.2 _ (hs _ h'.1)
theorem IsMax.sub {S T : Int → Prop} {a b : Int} (h : IsMax S a) (h' : IsMax T b) (hs : ∀ x, T x → S x) : b ≤ a := h.2 _ (hs _ h'.1)
/-! ### all places and levels of a box -/
structure NbIn where
  fx : Fx
  legs : List Leg
  r : List Str
  sp : Int
  lv : Int
  kd : K5
  sl : Int
  w : W4
def NbIn.S1 (n : NbIn) (b : B4) (v : Int) : Prop := ∃ p, b.1 ≤ p ∧ p ≤ b.2.1 ∧ v = p + (bnd n.fx n.r n.sp n.sl n.w (la n.fx n.r p)).1
def NbIn.S2 (n : NbIn) (b : B4) (v : Int) : Prop := ∃ p, b.1 ≤ p ∧ p ≤ b.2.1 ∧ v = p + (bnd n.fx n.r n.sp n.sl n.w (la n.fx n.r p)).2
def NbIn.S3 (n : NbIn) (b : B4) (v : Int) : Prop := ∃ p lv rt, b.1 ≤ p ∧ p ≤ b.2.1 ∧ b.2.2.1 ≤ lv ∧ lv ≤ b.2.2.2 ∧ (rt = n.kd.2.2.2.1 ∨ rt = n.kd.2.2.2.2) ∧ v = tow lv (tgt n.legs n.r n.lv (la n.fx n.r p)) rt
structure NbOk (n : NbIn) (b y : B4) : Prop where
  n1 : IsMin (n.S1 b) y.1
  n2 : IsMax (n.S2 b) y.2.1
  n3 : IsMin (n.S3 b) y.2.2.1
  n4 : IsMax (n.S3 b) y.2.2.2
theorem NbOk.eq {n : NbIn} {b y z : B4} (h : NbOk n b y) (h' : NbOk n b z) : y = z :=
  Prod.ext (h.n1.eq h'.n1) (Prod.ext (h.n2.eq h'.n2) (Prod.ext (h.n3.eq h'.n3) (h.n4.eq h'.n4)))
structure BIn (b c : B4) : Prop where
  n1 : b.1 ≤ c.1
  n2 : c.2.1 ≤ b.2.1
  n3 : b.2.2.1 ≤ c.2.2.1
  n4 : c.2.2.2 ≤ b.2.2.2
/-- a smaller box gives a smaller box -/
theorem NbOk.sub {n : NbIn} {b c y z : B4} (h : NbOk n b y) (h' : NbOk n c z) (hs : BIn b c) : BIn y z :=
  ⟨h.n1.sub h'.n1 fun x ⟨p, h1, h2, e⟩ => ⟨p, Int.le_trans hs.n1 h1, Int.le_trans h2 hs.n2, e⟩, h.n2.sub h'.n2 fun x ⟨p, h1, h2, e⟩ => ⟨p, Int.le_trans hs.n1 h1, Int.le_trans h2 hs.n2, e⟩,
   h.n3.sub h'.n3 fun x ⟨p, lv, rt, h1, h2, h3, h4, h5, e⟩ => ⟨p, lv, rt, Int.le_trans hs.n1 h1, Int.le_trans h2 hs.n2, Int.le_trans hs.n3 h3, Int.le_trans h4 hs.n4, h5, e⟩,
   h.n4.sub h'.n4 fun x ⟨p, lv, rt, h1, h2, h3, h4, h5, e⟩ => ⟨p, lv, rt, Int.le_trans hs.n1 h1, Int.le_trans h2 hs.n2, Int.le_trans hs.n3 h3, Int.le_trans h4 hs.n4, h5, e⟩⟩
/-- what a box must be -/
structure BoxOk (b : B4) : Prop where
  p : b.1 ≤ b.2.1
  l : b.2.2.1 ≤ b.2.2.2
/-- lengths that are not 0 -/
abbrev Strict (fx : Fx) (r : List Str) : Prop := ∀ k, k + 1 < r.length → 1 ≤ ln fx (at_ r k) (at_ r (k + 1))
theorem bg_lt {fx : Fx} {r : List Str} (h : Strict fx r) {k : Nat} (hk : k + 1 < r.length) : bg fx r k < bg fx r (k + 1) := by
  have := h k hk
  show bg fx r k < bg fx r k + ln fx (at_ r k) (at_ r (k + 1))
  omega
theorem la_ok (fx : Fx) {r : List Str} (h2 : 2 ≤ r.length) (p : Int) : LaOk (bg fx r) (r.length - 1) p (la fx r p) := by
  have := laI_la (fun i j => bg_mono fx r) p (m := r.length - 1) (by omega)
  rw [show r.length - 1 - 1 = r.length - 2 by omega] at this
  exact this
theorem la_eq {fx : Fx} {r : List Str} (h2 : 2 ≤ r.length) {p : Int} {k : Nat} (h : LaOk (bg fx r) (r.length - 1) p k) : la fx r p = k := la_unique (fun i j => bg_mono fx r) (la_ok fx h2 p) h
theorem la_mono (fx : Fx) {r : List Str} (h2 : 2 ≤ r.length) {p q : Int} (h : p ≤ q) : la fx r p ≤ la fx r q := by
  have a := la_ok fx h2 p
  have b := la_ok fx h2 q
  rcases Nat.lt_or_ge (la fx r q) (la fx r p) with z | z
  · exfalso
    rcases b.en with e | e
    · have := a.lt
      omega
    · have := a.le (la fx r q + 1) (by omega) (by omega)
      omega
  · exact z
/-- where the box begins, ends on a leg -/
def stA (fx : Fx) (r : List Str) (b : B4) (k : Nat) : Int := if k = la fx r b.1 then b.1 else bg fx r k
def enA (fx : Fx) (r : List Str) (b : B4) (k : Nat) : Int := if k = la fx r b.2.1 then b.2.1 else bg fx r (k + 1) - 1
theorem stA_ok {fx : Fx} {r : List Str} {b : B4} (h2 : 2 ≤ r.length) (hs : Strict fx r) (hb : BoxOk b) {k : Nat} (h : la fx r b.1 ≤ k) (h' : k ≤ la fx r b.2.1) : b.1 ≤ stA fx r b k ∧ stA fx r b k ≤ b.2.1 ∧ la fx r (stA fx r b k) = k := by
  have A := la_ok fx h2 b.1
  have B := la_ok fx h2 b.2.1
  have bp := hb.p
  unfold stA
  by_cases e : k = la fx r b.1
  · rw [if_pos e]
    exact ⟨Int.le_refl _, bp, e.symm⟩
  · rw [if_neg e]
    have k1 := B.lt
    have c1 : b.1 < bg fx r k := by
      rcases A.en with z | z
      · omega
      · have := bg_mono fx r (show la fx r b.1 + 1 ≤ k by omega)
        omega
    refine ⟨by omega, B.le k (by omega) h', la_eq h2 ⟨by omega, fun j _ hj => bg_mono fx r hj, ?_⟩⟩
    by_cases z : k + 1 = r.length - 1
    · exact .inl z
    · exact .inr (bg_lt hs (by omega))
theorem enA_ok {fx : Fx} {r : List Str} {b : B4} (h2 : 2 ≤ r.length) (hs : Strict fx r) (hb : BoxOk b) {k : Nat} (h : la fx r b.1 ≤ k) (h' : k ≤ la fx r b.2.1) : b.1 ≤ enA fx r b k ∧ enA fx r b k ≤ b.2.1 ∧ la fx r (enA fx r b k) = k := by
  have A := la_ok fx h2 b.1
  have B := la_ok fx h2 b.2.1
  have bp := hb.p
  unfold enA
  by_cases e : k = la fx r b.2.1
  · rw [if_pos e]
    exact ⟨bp, Int.le_refl _, e.symm⟩
  · rw [if_neg e]
    have k1 := B.lt
    have c1 : b.1 < bg fx r (k + 1) := by
      rcases A.en with z | z
      · omega
      · have := bg_mono fx r (show la fx r b.1 + 1 ≤ k + 1 by omega)
        omega
    have c2 := B.le (k + 1) (by omega) (by omega)
    have c3 := bg_lt hs (show k + 1 < r.length by omega)
    refine ⟨by omega, by omega, la_eq h2 ⟨by omega, fun j _ hj => ?_, .inr (by omega)⟩⟩
    have := bg_mono fx r hj
    omega
theorem stA_le {fx : Fx} {r : List Str} {b : B4} (h2 : 2 ≤ r.length) {p : Int} (h : b.1 ≤ p) : stA fx r b (la fx r p) ≤ p := by
  unfold stA
  by_cases e : la fx r p = la fx r b.1
  · rw [if_pos e]
    exact h
  · rw [if_neg e]
    have := la_mono fx h2 h
    exact (la_ok fx h2 p).le _ (by omega) (Nat.le_refl _)
theorem le_enA {fx : Fx} {r : List Str} {b : B4} (h2 : 2 ≤ r.length) {p : Int} (h : p ≤ b.2.1) : p ≤ enA fx r b (la fx r p) := by
  unfold enA
  by_cases e : la fx r p = la fx r b.2.1
  · rw [if_pos e]
    exact h
  · rw [if_neg e]
    have m := la_mono fx h2 h
    have B := la_ok fx h2 b.2.1
    have k1 := B.lt
    rcases (la_ok fx h2 p).en with z | z
    · omega
    · omega
/-! ### levels -/
theorem tow_dn {k : K5} {g dn up lv rt : Int} (hk : k.2.2.2.1 ≤ k.2.2.2.2) (h1 : dn ≤ lv) (hr : rt = k.2.2.2.1 ∨ rt = k.2.2.2.2) : (nlv k g dn up).1 ≤ tow lv g rt := by
  obtain ⟨_, _, _, a, c⟩ := k
  unfold nlv tow mn mx
  dsimp only at hk hr ⊢
  rcases hr with rfl | rfl <;> (repeat' split) <;> omega
theorem tow_up {k : K5} {g dn up lv rt : Int} (hk : k.2.2.2.1 ≤ k.2.2.2.2) (h1 : lv ≤ up) (hr : rt = k.2.2.2.1 ∨ rt = k.2.2.2.2) : tow lv g rt ≤ (nlv k g dn up).2 := by
  obtain ⟨_, _, _, a, c⟩ := k
  unfold nlv tow mn mx
  dsimp only at hk hr ⊢
  rcases hr with rfl | rfl <;> (repeat' split) <;> omega
/-! ### by legs -/
def nbRow (n : NbIn) (b : B4) (k : Nat) : B4 := (stA n.fx n.r b k + (bnd n.fx n.r n.sp n.sl n.w k).1, enA n.fx n.r b k + (bnd n.fx n.r n.sp n.sl n.w k).2, (nlv n.kd (tgt n.legs n.r n.lv k) b.2.2.1 b.2.2.2).1, (nlv n.kd (tgt n.legs n.r n.lv k) b.2.2.1 b.2.2.2).2)
def nbRows (n : NbIn) (b : B4) : List B4 := (List.range (la n.fx n.r b.2.1 + 1 - la n.fx n.r b.1)).map fun j => nbRow n b (la n.fx n.r b.1 + j)
theorem row_mem {n : NbIn} {b x : B4} : x ∈ nbRows n b ↔ ∃ k, la n.fx n.r b.1 ≤ k ∧ k ≤ la n.fx n.r b.2.1 ∧ x = nbRow n b k := by
  unfold nbRows
  rw [List.mem_map]
  constructor
  · rintro ⟨j, hj, e⟩
    have := List.mem_range.mp hj
    exact ⟨_, Nat.le_add_right _ _, by omega, e.symm⟩
  · rintro ⟨k, h1, h2, e⟩
    exact ⟨k - la n.fx n.r b.1, List.mem_range.mpr (by omega), by rw [e, Nat.add_sub_of_le h1]⟩
theorem nb_of {n : NbIn} {b : B4} {m1 m2 m3 m4 : Int} (h2 : 2 ≤ n.r.length) (hs : Strict n.fx n.r) (hb : BoxOk b) (hk : n.kd.2.2.2.1 ≤ n.kd.2.2.2.2)
    (a1 : m1 ∈ (nbRows n b).map fun x : B4 => x.1) (a2 : ∀ y ∈ (nbRows n b).map fun x : B4 => x.1, m1 ≤ y) (b1 : m2 ∈ (nbRows n b).map fun x : B4 => x.2.1) (b2 : ∀ y ∈ (nbRows n b).map fun x : B4 => x.2.1, y ≤ m2)
    (c1 : m3 ∈ (nbRows n b).map fun x : B4 => x.2.2.1) (c2 : ∀ y ∈ (nbRows n b).map fun x : B4 => x.2.2.1, m3 ≤ y) (d1 : m4 ∈ (nbRows n b).map fun x : B4 => x.2.2.2) (d2 : ∀ y ∈ (nbRows n b).map fun x : B4 => x.2.2.2, y ≤ m4) : NbOk n b (m1, m2, m3, m4) := by
  have row : ∀ {p : Int}, b.1 ≤ p → p ≤ b.2.1 → nbRow n b (la n.fx n.r p) ∈ nbRows n b := fun h h' => row_mem.mpr ⟨_, la_mono n.fx h2 h, la_mono n.fx h2 h', rfl⟩
  have bl := hb.l
  refine ⟨⟨?_, ?_⟩, ⟨?_, ?_⟩, ⟨?_, ?_⟩, ⟨?_, ?_⟩⟩
  · obtain ⟨x, hx, e⟩ := List.mem_map.mp a1
    obtain ⟨k, k1, k2, e2⟩ := row_mem.mp hx
    subst e2
    obtain ⟨s1, s2, s3⟩ := stA_ok h2 hs hb k1 k2
    exact ⟨_, s1, s2, by rw [s3]; exact e.symm⟩
  · rintro v ⟨p, h, h', e⟩
    have := a2 _ (List.mem_map.mpr ⟨_, row h h', rfl⟩)
    have h3 := stA_le (fx := n.fx) (b := b) h2 h
    rw [e]
    show m1 ≤ _
    exact Int.le_trans this (Int.add_le_add_right h3 _)
  · obtain ⟨x, hx, e⟩ := List.mem_map.mp b1
    obtain ⟨k, k1, k2, e2⟩ := row_mem.mp hx
    subst e2
    obtain ⟨s1, s2, s3⟩ := enA_ok h2 hs hb k1 k2
    exact ⟨_, s1, s2, by rw [s3]; exact e.symm⟩
  · rintro v ⟨p, h, h', e⟩
    have := b2 _ (List.mem_map.mpr ⟨_, row h h', rfl⟩)
    have h3 := le_enA (fx := n.fx) (b := b) h2 h'
    rw [e]
    show _ ≤ m2
    exact Int.le_trans (Int.add_le_add_right h3 _) this
  · obtain ⟨x, hx, e⟩ := List.mem_map.mp c1
    obtain ⟨k, k1, k2, e2⟩ := row_mem.mp hx
    subst e2
    obtain ⟨s1, s2, s3⟩ := stA_ok h2 hs hb k1 k2
    refine ⟨_, b.2.2.1, (if b.2.2.1 < tgt n.legs n.r n.lv k then n.kd.2.2.2.1 else n.kd.2.2.2.2), s1, s2, Int.le_refl _, bl, ?_, by rw [s3]; exact e.symm⟩
    split
    · exact .inl rfl
    · exact .inr rfl
  · rintro v ⟨p, lv, rt, h, h', h3, h4, hr, e⟩
    have := c2 _ (List.mem_map.mpr ⟨_, row h h', rfl⟩)
    rw [e]
    exact Int.le_trans this (tow_dn hk h3 hr)
  · obtain ⟨x, hx, e⟩ := List.mem_map.mp d1
    obtain ⟨k, k1, k2, e2⟩ := row_mem.mp hx
    subst e2
    obtain ⟨s1, s2, s3⟩ := stA_ok h2 hs hb k1 k2
    refine ⟨_, b.2.2.2, (if b.2.2.2 < tgt n.legs n.r n.lv k then n.kd.2.2.2.2 else n.kd.2.2.2.1), s1, s2, bl, Int.le_refl _, ?_, by rw [s3]; exact e.symm⟩
    split
    · exact .inr rfl
    · exact .inl rfl
  · rintro v ⟨p, lv, rt, h, h', h3, h4, hr, e⟩
    have := d2 _ (List.mem_map.mpr ⟨_, row h h', rfl⟩)
    rw [e]
    exact Int.le_trans (tow_up hk h4 hr) this
/-- and it is a box -/
theorem NbOk.box {n : NbIn} {b y : B4} (hs : ∀ k, (bnd n.fx n.r n.sp n.sl n.w (la n.fx n.r k)).1 ≤ (bnd n.fx n.r n.sp n.sl n.w (la n.fx n.r k)).2) (h : NbOk n b y) : BoxOk y := by
  constructor
  · obtain ⟨p, h1, h2, e⟩ := h.n1.1
    have h3 := h.n2.2 _ ⟨p, h1, h2, rfl⟩
    have := hs p
    omega
  · exact h.n3.2 _ h.n4.1
end MP
set_option Elab.async false
set_option linter.all false
set_option maxRecDepth 100000
set_option maxHeartbeats 4100000
/-! CrT: kinds, rules, winds as they stand; winds, targets, levels of a course (shared by the laws of tubes). -/
namespace Law
open PySem L2 Evl Sk MP M10
local macro_rules | `(tactic| walk_at "sc") => `(tactic| first | omega | assumption | (with_reducible exact mulOk) | (with_reducible exact smOk) | (with_reducible exact ⟨by decide, smOk⟩) | decide | (simp only [List.length_cons, List.length_nil]; decide) | exact divOk (by omega))
theorem RtV.strict {ch : ChV} {r : List Str} (hc : ChOk ch) (h : RtV ch r) : Strict (fxOf ch) r := fun k hk => by
  obtain ⟨l, hl⟩ := h.lg k hk
  obtain ⟨m, e1, e2⟩ := lgb_spec hl
  have := hc.ap l m
  rw [e1, e2] at this
  exact this
abbrev rWnd : Rp W4 := rTup (fCons rInt (fCons rInt (fCons rInt (fOne rInt))))
abbrev rK5 : Rp K5 := rTup (fCons rInt (fCons rInt (fCons rInt (fCons rInt (fOne rInt)))))
abbrev rB4 : Rp B4 := rTup (fCons rInt (fCons rInt (fCons rInt (fOne rInt))))
abbrev CrV := List Str × Int × Int
abbrev rCrs : Rp CrV := rTup (fCons (rTpv rStr) (fCons rInt (fOne rInt)))
abbrev ruN4 : List Str := ["lateral", "vertical", "radius", "band"]
abbrev ruN : List Str := ["lateral", "vertical", "radius", "band", "slip", "radar", "height", "foreign", "climb", "memory", "ahead", "gaps"]
theorem ruN_nd : ruN.Nodup := by decide +kernel
theorem ruN4_nd : ruN4.Nodup := by decide +kernel
abbrev RuV := ((((((((Int × Int × Int × Int) × Int) × Int) × Int) × Int) × Int) × Int) × Int) × List (List Int)
abbrev ruF4 : RpF (Int × Int × Int × Int) := fCons rInt (fCons rInt (fCons rInt (fOne rInt)))
abbrev ruF : RpF RuV := fApp (fApp (fApp (fApp (fApp (fApp (fApp (fApp ruF4 rInt) rInt) rInt) rInt) rInt) rInt) rInt) (rTpv (rTpv rInt))
abbrev rRules : Rp RuV := rRec ruN ruF
abbrev slipOf (x : RuV) : Int := x.1.1.1.1.1.1.1.2
abbrev radarOf (x : RuV) : Int := x.1.1.1.1.1.1.2
abbrev heightOf (x : RuV) : Int := x.1.1.1.1.1.2
abbrev lateralOf (x : RuV) : Int := x.1.1.1.1.1.1.1.1.1
abbrev verticalOf (x : RuV) : Int := x.1.1.1.1.1.1.1.1.2.1
abbrev radiusOf (x : RuV) : Int := x.1.1.1.1.1.1.1.1.2.2.1
abbrev bandOf (x : RuV) : Int := x.1.1.1.1.1.1.1.1.2.2.2
/-- winds of the law -/
structure WdOk (ws : List W4) : Prop where
  len : ws.length ≤ 1000
  first : ∃ w, ws[0]? = some w ∧ w.1 = 0
  x0 : ∀ w ∈ ws, -1000 ≤ w.2.1 ∧ w.2.1 ≤ 1000
  y0 : ∀ w ∈ ws, -1000 ≤ w.2.2.1 ∧ w.2.2.1 ≤ 1000
  e0 : ∀ w ∈ ws, 0 ≤ w.2.2.2 ∧ w.2.2.2 ≤ 1000
theorem fold_mem (t : Int) : ∀ (ws : List W4) (f : W4), ws.foldl (stp t) f = f ∨ ws.foldl (stp t) f ∈ ws
  | [], _ => .inl rfl
  | w :: ws, f => by
    rw [List.foldl_cons]
    rcases fold_mem t ws (stp t f w) with z | z
    · rw [z]
      unfold stp
      by_cases h : w.1 ≤ t
      · rw [if_pos h]
        exact .inr List.mem_cons_self
      · rw [if_neg h]
        exact .inl rfl
    · exact .inr (List.mem_cons_of_mem _ z)
theorem WdOk.at {ws : List W4} (h : WdOk ws) (t : Int) : windAt ws t ∈ ws := by
  obtain ⟨w, h0, _⟩ := h.first
  have e : ws.getD 0 (0, 0, 0, 0) = w := by rw [List.getD_eq_getElem?_getD, h0]; rfl
  unfold windAt
  rcases fold_mem t ws (ws.getD 0 (0, 0, 0, 0)) with z | z
  · rw [z, e]
    exact List.mem_of_getElem? h0
  · exact z
/-- a wind of the law -/
structure WnOk (w : W4) : Prop where
  x : -1000 ≤ w.2.1 ∧ w.2.1 ≤ 1000
  y : -1000 ≤ w.2.2.1 ∧ w.2.2.1 ≤ 1000
  e : 0 ≤ w.2.2.2 ∧ w.2.2.2 ≤ 1000
theorem WdOk.ok {ws : List W4} (h : WdOk ws) (t : Int) : WnOk (windAt ws t) := ⟨h.x0 _ (h.at t), h.y0 _ (h.at t), h.e0 _ (h.at t)⟩
structure KdOk (k : K5) : Prop where
  w : 0 ≤ k.1 ∧ k.1 ≤ 3
  s : 1 ≤ k.2.1 ∧ k.2.1 ≤ 60
  f : k.2.1 ≤ k.2.2.1 ∧ k.2.2.1 ≤ k.2.1 + 8
  l : 1 ≤ k.2.2.2.1 ∧ k.2.2.2.1 ≤ 6
  m : k.2.2.2.1 ≤ k.2.2.2.2 ∧ k.2.2.2.2 ≤ k.2.2.2.1 + 8
abbrev memoryOf (x : RuV) : Int := x.1.1.2
abbrev aheadOf (x : RuV) : Int := x.1.2
abbrev foreignOf (x : RuV) : Int := x.1.1.1.1.2
abbrev climbOf (x : RuV) : Int := x.1.1.1.2
abbrev gapsOf (x : RuV) : List (List Int) := x.2
structure RuOk (x : RuV) : Prop where
  lat : 1 ≤ lateralOf x ∧ lateralOf x ≤ 60
  ver : 1 ≤ verticalOf x ∧ verticalOf x ≤ 60
  rad : 0 ≤ radiusOf x ∧ radiusOf x ≤ 3
  ban : 0 ≤ bandOf x ∧ bandOf x ≤ 3
  sli : 0 ≤ slipOf x ∧ slipOf x ≤ 3
  rar : 0 ≤ radarOf x ∧ 2 * radarOf x < lateralOf x
  hei : 0 ≤ heightOf x ∧ 2 * heightOf x < verticalOf x
  fo : 0 ≤ foreignOf x ∧ foreignOf x ≤ 8
  cl : 0 ≤ climbOf x ∧ climbOf x ≤ 8
  me : 1 ≤ memoryOf x ∧ memoryOf x ≤ 5
  ah : 0 ≤ aheadOf x ∧ aheadOf x ≤ 8
  gl : (gapsOf x).length = 4
  gs : ∀ g ∈ gapsOf x, g.length = 4 ∧ ∀ y ∈ g, 1 ≤ y ∧ y ≤ 5
end Law
set_option Elab.async false
set_option linter.all false
set_option maxRecDepth 100000
set_option maxHeartbeats 4100000
/-! LkR: rules of the law (shared by the laws of tubes). -/
namespace Law
open PySem L2 Evl Sk MP M10
local macro_rules | `(tactic| walk_at "sc") => `(tactic| first | omega | assumption | (with_reducible exact mulOk) | (with_reducible exact smOk) | (with_reducible exact ⟨by decide, smOk⟩) | decide | (simp only [List.length_cons, List.length_nil]; decide) | exact divOk (by omega))
section
variable {P : Program} {w : World} {K : PySem.W.Frag} {mg : Str → Option Value} {base : Heap}
theorem sm_of {x : Int} (h0 : -1000000 ≤ x) (h1 : x ≤ 1000000) : Sm x := by
  have := Bd.of (k := 20) (x := x) (by omega) (by omega)
  exact smOk
abbrev GpOk (gs : List (List Int)) : Prop := ∀ g ∈ gs, g.length = 4 ∧ ∀ y ∈ g, 1 ≤ y ∧ y ≤ 5
theorem GpOk.snoc {gs : List (List Int)} {g : List Int} (h : GpOk gs) (h1 : g.length = 4) (h2 : ∀ y ∈ g, 1 ≤ y ∧ y ≤ 5) : GpOk (gs ++ [g]) := fun x hx => by
  rcases List.mem_append.mp hx with z | z
  · exact h x z
  · rw [List.mem_singleton.mp z]
    exact ⟨h1, h2⟩
abbrev sp_rules (K : Fg) : Sp := sp1N K [] (fOne rAdr) (fun _ => True) (fun x => ⟨x, oSt, ()⟩) (oRec ruN ruF) fun _ y => RuOk y
abbrev N_rules : List Str := ["_law_state", "_law_lateral", "_law_vertical", "_law_rules_here", "_law_j", "_law_k"]
theorem sc_rules : FnScope N_rules ["_law_state"] (defScope s_rules) := ⟨rfl, rfl, rfl, by decide +kernel, rfl, by decide +kernel, by decide +kernel⟩
theorem ok_rules (N : Nm K mg) (T : Bt mg) : FnOk P w K mg base CX0 3 N.rules.f N.rules.fd ["_law_state"] (sp_rules K) := by
  refine fn_m N.rules.F sc_rules [] fun cdv A outer s G H E st Q fam hp hk => ?_
  have hk' : ∀ {Γ : Gm} {q : Addr} {d : RuV}, RuOk d → RT K ⟨[], _, G, H, []⟩ Γ [⟨q, oRec ruN ruF, d⟩, ⟨st, oSt, ()⟩] rAdr q _ := fun {Γ q d} e => hk ⟨d, e, rfl⟩
  clear hk
  have z1 : 100000 ≤ sizeLine := by decide
  have hc1 : ∀ {c : Int}, c ∈ [(3 : Int), 12, 60] → 3 ≤ c ∧ c ≤ 60 := fun {c} h => by
    simp only [List.mem_cons, List.not_mem_nil, or_false] at h
    omega
  have hc2 : ∀ {c : Int}, c ∈ [(3 : Int), 20, 60] → 3 ≤ c ∧ c ≤ 60 := fun {c} h => by
    simp only [List.mem_cons, List.not_mem_nil, or_false] at h
    omega
  show DS _ K ⟨[], _, G, H, []⟩ [some ⟨rAdr, st⟩, none, none, none, none, none] [⟨st, oSt, ()⟩] (defBody s_rules) _
  refine s_set 1 (d_bin (d_int (d_call N.draw (ok_draw N T) (da_cons (d_var 0 (da_one (d_call N.pick (ok_pick (ra := rInt) N T) (da_cons (d_var 0 (da_one (d_lst (ra := rInt) (da_all (d_int (da_all (d_int (da_all (d_int (da_all0 ⟨(by walk_at "sc"), (sw_1 ⟨by walk_at "sc", by walk_at "sc"⟩ (fun c hc => (sw_1 ⟨by have := hc1 hc; dsimp only; omega, by have := hc1 hc; exact sm_of (by dsimp only; omega) (by dsimp only; omega)⟩ (fun n hn => (o_add ?_)))))⟩))))))))))))))))))
  obtain ⟨a0, a1⟩ := hc1 hc
  obtain ⟨n0, n1⟩ := hn
  dsimp only at n1
  refine s_set 2 (d_bin (d_int (d_call N.draw (ok_draw N T) (da_cons (d_var 0 (da_one (d_call N.pick (ok_pick (ra := rInt) N T) (da_cons (d_var 0 (da_one (d_lst (ra := rInt) (da_all (d_int (da_all (d_int (da_all (d_int (da_all0 ⟨(by walk_at "sc"), (sw_1 ⟨by walk_at "sc", by walk_at "sc"⟩ (fun c2 hcc => (sw_1 ⟨by have := hc2 hcc; dsimp only; omega, by have := hc2 hcc; exact sm_of (by dsimp only; omega) (by dsimp only; omega)⟩ (fun m hm => (o_add ?_)))))⟩))))))))))))))))))
  obtain ⟨b0, b1⟩ := hc2 hcc
  obtain ⟨m0, m1⟩ := hm
  dsimp only at m1
  generalize el : 1 + n = lat
  generalize ev : 1 + m = ver
  refine s_set 3 (d_disp (ns := ruN4) (f := ruF4) ruN4_nd (fun i => pps_cons pe_str (WE.pe i) (pps_cons pe_str (WE.pe i) (pps_cons pe_str (WE.pe i) (pps_cons pe_str (WE.pe i) pps_nil)))) fun q hq => dd_cons (d_var 1 (dd_cons (d_var 2 (dd_cons (d_call N.draw (ok_draw N T) (da_cons (d_var 0 (da_one (d_int (sw_1 ⟨(by walk_at "sc"), (by walk_at "sc")⟩ (fun u1 hu1 => (dd_one (d_call N.draw (ok_draw N T) (da_cons (d_var 0 (da_one (d_int (sw_1 ⟨(by walk_at "sc"), (by walk_at "sc")⟩ (fun u2 hu2 => ⟨_, rfl, ?_⟩))))))))))))))))))))
  refine s_recNew (rc := rInt) (d_call N.draw (ok_draw N T) (da_cons (d_var 0 (da_one (d_int (sw_1 ⟨(by walk_at "sc"), (by walk_at "sc")⟩ (fun u3 hu3 => (d_var 3 ⟨_, _, inferInstance, ?_⟩))))))))
  refine s_recNew (rc := rInt) (d_call N.draw (ok_draw N T) (da_cons (d_var 0 (da_one (d_bin (d_bin (d_var 1 (d_int (o_add (d_int (o_div (divOk (by decide)) (sw_1 ⟨by dsimp only; omega, sm_of (by dsimp only; omega) (by dsimp only; omega)⟩ (fun u4 hu4 => (d_var 3 ⟨_, _, inferInstance, ?_⟩))))))))))))))
  refine s_recNew (rc := rInt) (d_call N.draw (ok_draw N T) (da_cons (d_var 0 (da_one (d_bin (d_bin (d_var 2 (d_int (o_add (d_int (o_div (divOk (by decide)) (sw_1 ⟨by dsimp only; omega, sm_of (by dsimp only; omega) (by dsimp only; omega)⟩ (fun u5 hu5 => (d_var 3 ⟨_, _, inferInstance, ?_⟩))))))))))))))
  refine s_recNew (rc := rInt) (d_call N.draw (ok_draw N T) (da_cons (d_var 0 (da_one (d_int (sw_1 ⟨(by walk_at "sc"), (by walk_at "sc")⟩ (fun u6 hu6 => (d_var 3 ⟨_, _, inferInstance, ?_⟩))))))))
  refine s_recNew (rc := rInt) (d_call N.draw (ok_draw N T) (da_cons (d_var 0 (da_one (d_int (sw_1 ⟨(by walk_at "sc"), (by walk_at "sc")⟩ (fun u7 hu7 => (d_var 3 ⟨_, _, inferInstance, ?_⟩))))))))
  refine s_recNew (rc := rInt) (d_bin (d_int (d_call N.draw (ok_draw N T) (da_cons (d_var 0 (da_one (d_int (sw_1 ⟨(by walk_at "sc"), (by walk_at "sc")⟩ (fun u8 hu8 => (o_add (d_var 3 ⟨_, _, inferInstance, ?_⟩)))))))))))
  refine s_recNew (rc := rInt) (d_call N.draw (ok_draw N T) (da_cons (d_var 0 (da_one (d_int (sw_1 ⟨(by walk_at "sc"), (by walk_at "sc")⟩ (fun u9 hu9 => (d_var 3 ⟨_, _, inferInstance, ?_⟩))))))))
  refine s_recNew (rc := rTpv (rTpv rInt)) (d_callT T.tuple bt_tuple (da_one (d_frzE (d_lcO (js := [4]) (ra := rInt) (rb := rTpv rInt) [("_law_j", 4)] [4] (fun _ => blkOk_by (N := N_rules) (sc := defScope s_rules) (by decide +kernel)) (w_rng1 T.range (d_int ⟨(by decide), ⟨Unit, fun i ys _ => ys.length = i ∧ i ≤ 4 ∧ GpOk ys, fun _ => _, ⟨(), ⟨rfl, Nat.zero_le _, fun g hg => absurd hg List.not_mem_nil⟩, rfl⟩, fun g D i x ys d hx hd => (g_name 4 (dts_nil ⟨fun _ => (d_callT T.tuple bt_tuple (da_one (d_frzE (d_lcO (js := [5]) (ra := rInt) (rb := rInt) [("_law_k", 5)] [5] (fun _ => blkOk_in (blkOk_by (N := N_rules) (by decide +kernel))) (w_rng1 T.range (d_int ⟨(by decide), ⟨Unit, fun i2 ys2 _ => ys2.length = i2 ∧ i2 ≤ 4 ∧ ∀ y ∈ ys2, 1 ≤ y ∧ y ≤ 5, fun _ => _, ⟨(), ⟨rfl, Nat.zero_le _, fun g hg => absurd hg List.not_mem_nil⟩, rfl⟩, fun g2 D2 i2 x2 ys2 d2 hx2 hd2 => (g_name 5 (dts_nil ⟨fun _ => (d_bin (d_int (d_call N.draw (ok_draw N T) (da_cons (d_var 0 (da_one (d_int (sw_1 (q := st) ⟨(by walk_at "sc"), (by walk_at "sc")⟩ (fun n9 hn9 => (o_add ⟨(), rfl, ?_, ?_⟩)))))))))), fun h => Bool.noConfusion h⟩)), fun D2 ys2 d2 hM2 hd2 => ⟨_, _, rfl, hM2, (c_tuple ⟨(), rfl, ?_, ?_⟩)⟩⟩⟩)))))), fun h => Bool.noConfusion h⟩)), fun D ys d hM hd => ⟨_, _, rfl, hM, (c_tuple (d_var 3 ⟨_, _, inferInstance, ?_⟩))⟩⟩⟩))))))
  · obtain ⟨q1, q2, _⟩ := hd2
    omega
  · obtain ⟨q1, q2, q3⟩ := hd2
    obtain ⟨p0, p1⟩ := hn9
    dsimp only at p1
    obtain ⟨hlt, _⟩ := rgI_item hx2
    have hlt : i2 < 4 := hlt
    refine ⟨by rw [List.length_append, q1]; rfl, by omega, fun y hy => ?_⟩
    rcases List.mem_append.mp hy with z | z
    · exact q3 y z
    · rw [List.mem_singleton.mp z]
      omega
  · obtain ⟨q1, q2, _⟩ := hd
    omega
  · obtain ⟨q1, q2, q3⟩ := hd
    obtain ⟨hlt, _⟩ := rgI_item hx
    have hlt : i < 4 := hlt
    obtain ⟨p1, p2, p3⟩ := hd2
    refine ⟨by rw [List.length_append, q1]; rfl, by omega, q3.snoc ?_ p3⟩
    rw [rgI_len] at p1
    exact p1
  · obtain ⟨q1, q2, q3⟩ := hd
    rw [rgI_len] at q1
    have e : ∀ {u b : Int}, (0 ≤ u ∧ u < b) → 0 ≤ u ∧ u < b := fun h => h
    have h1 := e hu1
    have h2 := e hu2
    have h3 := e hu3
    have h4 := e hu4
    have h5 := e hu5
    have h6 := e hu6
    have h7 := e hu7
    have h8 := e hu8
    have h9 := e hu9
    dsimp only at h1 h2 h3 h4 h5 h6 h7 h8 h9
    refine s_ret (d_var 3 (hk' ⟨?_, ?_, ?_, ?_, ?_, ?_, ?_, ?_, ?_, ?_, ?_, ?_, ?_⟩))
    · show 1 ≤ lat ∧ lat ≤ 60
      omega
    · show 1 ≤ ver ∧ ver ≤ 60
      omega
    · show 0 ≤ u1 ∧ u1 ≤ 3
      omega
    · show 0 ≤ u2 ∧ u2 ≤ 3
      omega
    · show 0 ≤ u3 ∧ u3 ≤ 3
      omega
    · show 0 ≤ u4 ∧ 2 * u4 < lat
      omega
    · show 0 ≤ u5 ∧ 2 * u5 < ver
      omega
    · show 0 ≤ u6 ∧ u6 ≤ 8
      omega
    · show 0 ≤ u7 ∧ u7 ≤ 8
      omega
    · show 1 ≤ 1 + u8 ∧ 1 + u8 ≤ 5
      omega
    · show 0 ≤ u9 ∧ u9 ≤ 8
      omega
    · exact q1
    · exact q3
end
end Law
set_option Elab.async false
set_option linter.all false
set_option maxRecDepth 100000
set_option maxHeartbeats 4100000
/-! LkK: kinds, rules, winds of the law (shared by the laws of tubes). -/
namespace Law
open PySem L2 Evl Sk MP M10
local macro_rules | `(tactic| walk_at "sc") => `(tactic| first | omega | assumption | (with_reducible exact mulOk) | (with_reducible exact smOk) | (with_reducible exact ⟨by decide, smOk⟩) | decide | (simp only [List.length_cons, List.length_nil]; decide) | exact divOk (by omega))
section
variable {P : Program} {w : World} {K : PySem.W.Frag} {mg : Str → Option Value} {base : Heap}
abbrev sp_kind (K : Fg) : Sp := sp1 K [] (fOne rAdr) (fun _ => True) (fun x => ⟨x, oSt, ()⟩) rK5 fun _ y => KdOk y
theorem sc_kind : FnScope ["_law_state", "_law_slow", "_law_least"] ["_law_state"] (defScope s_kind) := ⟨rfl, rfl, rfl, by decide +kernel, rfl, by decide +kernel, by decide +kernel⟩
theorem ok_kind (N : Nm K mg) (T : Bt mg) : FnOk P w K mg base CX0 3 N.kind.f N.kind.fd ["_law_state"] (sp_kind K) := by
  refine fn_m N.kind.F sc_kind [] fun cdv A outer s G H E st Q fam hp hk => ?_
  have hk' : ∀ {Γ : Gm} {d : K5}, KdOk d → RT K ⟨[], _, G, H, []⟩ Γ [⟨st, oSt, ()⟩] rK5 d _ := fun {Γ d} e => hk ⟨rfl, e⟩
  clear hk
  show DS _ K ⟨[], _, G, H, []⟩ [some ⟨rAdr, st⟩, none, none] [⟨st, oSt, ()⟩] (defBody s_kind) _
  have hc1 : ∀ {c : Int}, c ∈ [(8 : Int), 20, 60] → 8 ≤ c ∧ c ≤ 60 := fun {c} h => by
    simp only [List.mem_cons, List.not_mem_nil, or_false] at h
    omega
  refine s_set 1 (d_bin (d_int (d_call N.draw (ok_draw N T) (da_cons (d_var 0 (da_one (d_call N.pick (ok_pick (ra := rInt) N T) (da_cons (d_var 0 (da_one (d_lst (ra := rInt) (da_all (d_int (da_all (d_int (da_all (d_int (da_all0 ⟨(by walk_at "sc"), (sw_1 ⟨by walk_at "sc", by walk_at "sc"⟩ (fun c hc => (sw_1 ⟨by have := hc1 hc; dsimp only; omega, by have := hc1 hc; exact (Bd.of (k := 10) (x := c) (by omega) (by omega)).mono (by decide) |> fun h => ⟨h.lt⟩⟩ (fun n hn => (o_add ?_)))))⟩))))))))))))))))))
  obtain ⟨c0, c1⟩ := hc1 hc
  obtain ⟨n0, n1⟩ := hn
  dsimp only at n1
  refine s_set 2 (d_bin (d_int (d_call N.draw (ok_draw N T) (da_cons (d_var 0 (da_one (d_int (sw_1 ⟨(by walk_at "sc"), (by walk_at "sc")⟩ (fun n2 hn2 => (o_add ?_))))))))))
  obtain ⟨a0, a1⟩ := hn2
  dsimp only at a1
  refine s_ret (d_tup (da_cons (d_call N.draw (ok_draw N T) (da_cons (d_var 0 (da_one (d_int (sw_1 ⟨(by walk_at "sc"), (by walk_at "sc")⟩ (fun n3 hn3 => (da_cons (d_var 1 (da_cons (d_bin (d_var 1 (d_call N.draw (ok_draw N T) (da_cons (d_var 0 (da_one (d_int (sw_1 ⟨(by walk_at "sc"), (by walk_at "sc")⟩ (fun n4 hn4 => (o_add (da_cons (d_var 2 (da_one (d_bin (d_var 2 (d_call N.draw (ok_draw N T) (da_cons (d_var 0 (da_one (d_int (sw_1 ⟨(by walk_at "sc"), (by walk_at "sc")⟩ (fun n5 hn5 => (o_add (hk' ?_))))))))))))))))))))))))))))))))))))
  obtain ⟨b0, b1⟩ := hn3
  obtain ⟨d0, d1⟩ := hn4
  obtain ⟨e0, e1⟩ := hn5
  dsimp only at b1 d1 e1
  exact ⟨by dsimp only; omega, by dsimp only; omega, by dsimp only; omega, by dsimp only; omega, by dsimp only; omega⟩
end
end Law
set_option Elab.async false
set_option linter.all false
set_option maxRecDepth 100000
set_option maxHeartbeats 4100000
/-! LkW: kinds, rules, winds of the law (shared by the laws of tubes). -/
namespace Law
open PySem L2 Evl Sk MP M10
local macro_rules | `(tactic| walk_at "sc") => `(tactic| first | omega | assumption | (with_reducible exact mulOk) | (with_reducible exact smOk) | (with_reducible exact ⟨by decide, smOk⟩) | decide | (simp only [List.length_cons, List.length_nil]; decide) | exact divOk (by omega))
section
variable {P : Program} {w : World} {K : PySem.W.Frag} {mg : Str → Option Value} {base : Heap}
abbrev sp_winds (K : Fg) : Sp := sp1 K [] (fOne rAdr) (fun _ => True) (fun x => ⟨x, oSt, ()⟩) (rLst rWnd) fun _ y => WdOk y
theorem sc_winds : FnScope ["_law_state", "_law_winds_here", "_law_k", "_law_last"] ["_law_state"] (defScope s_winds) := ⟨rfl, rfl, rfl, by decide +kernel, rfl, by decide +kernel, by decide +kernel⟩
theorem WdOk.snoc {ws : List W4} {w : W4} (h : WdOk ws) (hl : ws.length < 1000) (hw : WnOk w) : WdOk (ws ++ [w]) := by
  have m : ∀ {p : W4 → Prop}, (∀ x ∈ ws, p x) → p w → ∀ x ∈ ws ++ [w], p x := fun {p} a b x hx => by
    rcases List.mem_append.mp hx with z | z
    · exact a x z
    · rw [List.mem_singleton.mp z]
      exact b
  refine ⟨by rw [List.length_append]; exact hl, ?_, m h.x0 hw.x, m h.y0 hw.y, m h.e0 hw.e⟩
  obtain ⟨w0, e1, e2⟩ := h.first
  exact ⟨w0, by rw [List.getElem?_append_left (List.getElem?_eq_some_iff.mp e1).1]; exact e1, e2⟩
theorem ok_winds (N : Nm K mg) (T : Bt mg) : FnOk P w K mg base CX0 2 N.winds.f N.winds.fd ["_law_state"] (sp_winds K) := by
  refine fn_m N.winds.F sc_winds [] fun cdv A outer s G H E st Q fam hp hk => ?_
  have hk' : ∀ {Γ : Gm} {d : List W4}, WdOk d → RT K ⟨[], _, G, H, []⟩ Γ [⟨st, oSt, ()⟩] (rLst rWnd) d _ := fun {Γ d} e => hk ⟨rfl, e⟩
  clear hk
  show DS _ K ⟨[], _, G, H, []⟩ [some ⟨rAdr, st⟩, none, none, none] [⟨st, oSt, ()⟩] (defBody s_winds) _
  refine s_set 1 (d_lstO (ra := rWnd) (da_all (d_tup (da_cons (d_int (da_cons (d_bin (d_call N.draw (ok_draw N T) (da_cons (d_var 0 (da_one (d_int (sw_1 ⟨(by walk_at "sc"), (by walk_at "sc")⟩ (fun n1_ hn1 => (d_int (o_sub (da_cons (d_bin (d_call N.draw (ok_draw N T) (da_cons (d_var 0 (da_one (d_int (sw_1 ⟨(by walk_at "sc"), (by walk_at "sc")⟩ (fun n2 hn2 => (d_int (o_sub (da_one (d_call N.draw (ok_draw N T) (da_cons (d_var 0 (da_one (d_int (sw_1 ⟨(by walk_at "sc"), (by walk_at "sc")⟩ (fun n3 hn3 => (da_all0 ⟨(by walk_at "sc"), fun q1 hq1 => ?_⟩))))))))))))))))))))))))))))))))))))
  obtain ⟨a0, a1⟩ := hn1
  obtain ⟨b0, b1⟩ := hn2
  obtain ⟨c0, c1⟩ := hn3
  dsimp only at a1 b1 c1
  refine s_for (js := [2]) (w_rng1 T.range (d_call N.draw (ok_draw N T) (da_cons (d_var 0 (da_one (d_int (sw_1 ⟨(by walk_at "sc"), (by walk_at "sc")⟩ (fun n hn => ⟨?_, ?_⟩))))))))
  · obtain ⟨n0, n1⟩ := hn
    dsimp only at n1
    omega
  obtain ⟨n0, n1⟩ := hn
  dsimp only at n1
  refine ⟨List W4, fun i d => i ≤ 3 ∧ d.length = i + 1 ∧ WdOk d, fun _ => [some ⟨rAdr, st⟩, some ⟨rAdr, q1⟩, none, none], fun d => [⟨q1, oLst rWnd, d⟩, ⟨st, oSt, ()⟩], ⟨[(0, n1_ - 3, n2 - 3, n3)], ⟨Nat.zero_le _, rfl, ?_⟩, ⟨rfl, rfl, trivial⟩, rfl⟩, fun g i x d hx hd => (g_name 2 ?_), fun d hd => ?_⟩
  · have m : ∀ {p : W4 → Prop}, p (0, n1_ - 3, n2 - 3, n3) → ∀ x ∈ [((0, n1_ - 3, n2 - 3, n3) : W4)], p x := fun {p} b x hx => by
      rw [List.mem_singleton.mp hx]
      exact b
    exact ⟨Nat.le_trans (Nat.le_refl 1) (by decide), ⟨_, rfl, rfl⟩, m (by dsimp only; omega), m (by dsimp only; omega), m (by dsimp only; omega)⟩
  · obtain ⟨hi, hd1, hd2⟩ := hd
    obtain ⟨hlt, _⟩ := rgI_item hx
    obtain ⟨lw, glw, mlw, _⟩ := atI_lt (xs := d) (i := (d.length : Int) - 1) (by omega) (by omega)
    refine s_set 3 (d_ix (d_var 1 (d_bin (d_callB T.len bt_len (da_one (d_var 1 (c_lenG (d_int (o_sub (i_ls glw ?_))))))))))
    refine s_expr (d_app (ra := rWnd) (d_var 1 ⟨_, _, inferInstance, (d_tup (da_cons (d_bin (d_bin (d_ix (d_var (ra := rWnd) (x := lw) 3 (d_int (i_tup 0 (d_int (o_add (d_call N.draw (ok_draw N T) (da_cons (d_var 0 (da_one (d_int (sw_1 ⟨(by walk_at "sc"), (by walk_at "sc")⟩ (fun m1 hm1 => (o_add (da_cons (d_bin (d_call N.draw (ok_draw N T) (da_cons (d_var 0 (da_one (d_int (sw_1 ⟨(by walk_at "sc"), (by walk_at "sc")⟩ (fun m2 hm2 => (d_int (o_sub (da_cons (d_bin (d_call N.draw (ok_draw N T) (da_cons (d_var 0 (da_one (d_int (sw_1 ⟨(by walk_at "sc"), (by walk_at "sc")⟩ (fun m3 hm3 => (d_int (o_sub (da_one (d_call N.draw (ok_draw N T) (da_cons (d_var 0 (da_one (d_int (sw_1 ⟨(by walk_at "sc"), (by walk_at "sc")⟩ (fun m4 hm4 => ⟨_, _, inferInstance, ?_, ?_⟩))))))))))))))))))))))))))))))))))))))))))))))))⟩))
    · have : 100000 ≤ sizeLine := by decide
      omega
    obtain ⟨e0, e1⟩ := hm2
    obtain ⟨f0, f1⟩ := hm3
    obtain ⟨g0, g1⟩ := hm4
    dsimp only at e1 f1 g1
    refine s_next (d ++ [(lw.1 + 1 + m1, m2 - 4, m3 - 4, m4)]) ⟨by omega, by rw [List.length_append, hd1]; rfl, hd2.snoc (by omega) ⟨by dsimp only; omega, by dsimp only; omega, by dsimp only; omega⟩⟩ ⟨rfl, rfl, trivial⟩ rfl
  · obtain ⟨hi, hd1, hd2⟩ := hd
    exact s_ret (d_var 1 (rt_done hq1 (hk' hd2)))
end
end Law
set_option Elab.async false
set_option linter.all false
set_option maxRecDepth 100000
set_option maxHeartbeats 4100000
/-! LwQ: the law's own legs, lengths, begins (shared by the laws of paths). -/
namespace Law
open PySem L2 Evl Sk MP
local macro_rules | `(tactic| walk_at "sc") => `(tactic| first | omega | assumption | (with_reducible exact mulOk) | (with_reducible exact smOk) | (with_reducible exact ⟨by decide, smOk⟩) | decide | (simp only [List.length_cons, List.length_nil]; decide) | exact divOk (by omega))
section
variable {P : Program} {w : World} {K : PySem.W.Frag} {mg : Str → Option Value} {base : Heap}
theorem head_find {α : Type} {l : List α} {p : α → Bool} {x : α} (h : l.find? p = some x) : (l.filter p)[0]? = some x := by
  rw [← List.head?_eq_getElem?, List.head?_filter]
  exact h
abbrev sp_leg (K : Fg) : Sp := spF K [] (fCons rChart (fCons rStr (fOne rStr))) (fun x => (lgOf x.1).length ≤ 1000 ∧ ∃ l, lgb (lgOf x.1) x.2.1 x.2.2 = some l) rLeg fun x => (lgb (lgOf x.1) x.2.1 x.2.2).getD dfl
abbrev N_leg : List Str := ["_law_chart_here", "_law_start_here", "_law_end", "_law_found_here", "_law_leg_here"]
theorem sc_leg : FnScope N_leg ["_law_chart_here", "_law_start_here", "_law_end"] (defScope s_leg) := ⟨rfl, rfl, rfl, by decide +kernel, rfl, by decide +kernel, by decide +kernel⟩
theorem ok_leg (N : Nm K mg) (T : Bt mg) : FnOk P w K mg base CX0 1 N.leg.f N.leg.fd ["_law_chart_here", "_law_start_here", "_law_end"] (sp_leg K) := by
  refine fn_m N.leg.F sc_leg [] fun cdv A outer s G H E x Q fam hp hk => ?_
  obtain ⟨ch, sn, en⟩ := x
  obtain ⟨hl, l, hlg⟩ := hp
  dsimp only at hl hlg
  have hsz : (lgOf ch).length ≤ sizeLine := Nat.le_trans hl (by decide)
  show DS _ K ⟨[], _, G, H, []⟩ [some ⟨rChart, ch⟩, some ⟨rStr, sn⟩, some ⟨rStr, en⟩, none, none] _ (defBody s_leg) _
  refine s_lcF 3 (js := [4]) (ra := rLeg) (rb := rLeg) (f := fun l : Leg => l) (g := fun l : Leg => decide (l.1 = sn) && decide (l.2.1 = en)) [("_law_leg_here", 4)] [4] (fun _ => blkOk_by (N := N_leg) (sc := defScope s_leg) (by decide +kernel)) (w_lst (d_recP 0 1 rfl chN_nd ⟨rfl, hsz, fun gg D ys x hx => (g_name 4 (dts_one (dt_then (dt_bool (dp_andP (dt_cmp (d_ix (d_var (ra := rLeg) (x := x) 4 (d_int (i_tup 0 (d_var 1 (o_eqS ⟨rfl, rfl⟩))))))) (fun hb => (dp_and1 (dt_cmp (d_ix (d_var (ra := rLeg) (x := x) 4 (d_int (i_tup 1 (d_var 2 (o_eqS ⟨rfl, rfl⟩))))))))))) ⟨rfl, rfl, fun hb => (d_var 4 ⟨rfl, rfl⟩)⟩))), ?_⟩))
  rw [List.map_id']
  have h0 : ((lgOf ch).filter fun l => decide (l.1 = sn) && decide (l.2.1 = en))[0]? = some l := head_find hlg
  have hpos := (List.getElem?_eq_some_iff.mp h0).1
  have ha : atI ((lgOf ch).filter fun l => decide (l.1 = sn) && decide (l.2.1 = en)) 0 = some l := atI_nat' (k := 0) h0
  refine s_ret (d_iteP (dt_cmp (d_callB T.len bt_len (da_one (d_var 3 (c_lenL (d_int (o_gt ⟨rfl, rfl⟩))))))) (fun hb => (d_ix (d_var 3 (d_int (i_lst ha (hk ⟨rfl, ?_⟩)))))) (fun hb => ?_))
  · show l = (lgb (lgOf ch) sn en).getD dfl
    rw [hlg]
    rfl
  · exfalso
    have := of_decide_eq_false hb
    omega
end
end Law
set_option Elab.async false
set_option linter.all false
set_option maxRecDepth 100000
set_option maxHeartbeats 4100000
/-! LkC: winds, bounds, targets by the law (shared by the laws of tubes). -/
namespace Law
open PySem L2 Evl Sk MP M10
local macro_rules | `(tactic| walk_at "sc") => `(tactic| first | omega | assumption | (with_reducible exact mulOk) | (with_reducible exact smOk) | (with_reducible exact ⟨by decide, smOk⟩) | decide | (simp only [List.length_cons, List.length_nil]; decide) | exact divOk (by omega))
section
variable {P : Program} {w : World} {K : PySem.W.Frag} {mg : Str → Option Value} {base : Heap}
abbrev sp_law_wind_at (K : Fg) : Sp := spF K [] (fCons (rLst rWnd) (fOne rInt)) (fun x => (∃ w, x.1[0]? = some w ∧ w.1 ≤ x.2) ∧ x.1.length ≤ 1000) rWnd fun x => windAt x.1 x.2
abbrev N_law_wind_at : List Str := ["_law_winds_here", "_law_tick", "_law_wind"]
theorem sc_law_wind_at : FnScope N_law_wind_at ["_law_winds_here", "_law_tick"] (defScope s_law_wind_at) := ⟨rfl, rfl, rfl, by decide +kernel, rfl, by decide +kernel, by decide +kernel⟩
theorem ok_law_wind_at (N : Nm K mg) (T : Bt mg) : FnOk P w K mg base CX0 1 N.law_wind_at.f N.law_wind_at.fd ["_law_winds_here", "_law_tick"] (sp_law_wind_at K) := by
  refine fn_m N.law_wind_at.F sc_law_wind_at [] fun cdv A outer s G H E x Q fam hp hk => ?_
  obtain ⟨ws, t⟩ := x
  obtain ⟨⟨w0, h0, h1⟩, hl⟩ := hp
  dsimp only at h0 h1 hl
  have ha : atI ((ws.filter fun w => decide (w.1 ≤ t)).map fun w : W4 => w) (-1) = some (windAt ws t) := by
    rw [List.map_id']
    exact atI_last (wind_last h0 h1)
  show DS _ K ⟨[], _, G, H, []⟩ [some ⟨(rLst rWnd), ws⟩, some ⟨rInt, t⟩, none] _ (defBody s_law_wind_at) _
  exact s_ret (d_ix (d_lcF (js := [2]) (ra := rWnd) (rb := rWnd) (f := fun w : W4 => w) (g := fun w : W4 => decide (w.1 ≤ t)) [("_law_wind", 2)] [2] (fun _ => blkOk_by (N := N_law_wind_at) (sc := defScope s_law_wind_at) (by decide +kernel)) (w_lst (d_var 0 ⟨rfl, Nat.le_trans hl (by decide), fun gg D ys x hx => (g_name 2 (dts_one (dt_then (dt_cmp (d_ix (d_var (ra := rWnd) (x := x) 2 (d_int (i_tup 0 (d_var 1 (o_le ⟨rfl, rfl⟩))))))) ⟨rfl, rfl, fun hb => (d_var 2 ⟨rfl, rfl⟩)⟩))), (d_un (d_int (u_neg (i_lst ha (hk ⟨rfl, rfl⟩)))))⟩))))
structure BnOk (x : ChV × List Str × List Int × Int × Int × Int × W4) : Prop where
  rt : RtV x.1 x.2.1
  st : Strict (fxOf x.1) x.2.1
  bs : x.2.2.1 = begins (fxOf x.1) x.2.1
  i0 : 0 ≤ x.2.2.2.1
  i1 : x.2.2.2.1.toNat + 1 < x.2.1.length
  wn : WnOk x.2.2.2.2.2.2
abbrev sp_bounds (K : Fg) : Sp := spF K [] (fCons rChart (fCons (rTpv rStr) (fCons (rLst rInt) (fCons rInt (fCons rInt (fCons rInt (fOne rWnd))))))) BnOk rPr fun x => bnd (fxOf x.1) x.2.1 x.2.2.2.2.1 x.2.2.2.2.2.1 x.2.2.2.2.2.2 x.2.2.2.1.toNat
theorem sc_bounds : FnScope ["_law_chart_here", "_law_route", "_law_begins_here", "_law_k", "_law_speed", "_law_slip", "_law_wind", "_law_a", "_law_b", "_law_length", "_law_push", "_law_doubt"] ["_law_chart_here", "_law_route", "_law_begins_here", "_law_k", "_law_speed", "_law_slip", "_law_wind"] (defScope s_bounds) := ⟨rfl, rfl, rfl, by decide +kernel, rfl, by decide +kernel, by decide +kernel⟩
theorem ok_bounds (N : Nm K mg) (T : Bt mg) : FnOk P w K mg base CX0 1 N.bounds.f N.bounds.fd ["_law_chart_here", "_law_route", "_law_begins_here", "_law_k", "_law_speed", "_law_slip", "_law_wind"] (sp_bounds K) := by
  refine fn_m N.bounds.F sc_bounds [] fun cdv A outer s G H E x Q fam hp hk => ?_
  obtain ⟨ch, r, bs, i, sd, sl, tk, wx, wy, er⟩ := x
  obtain ⟨hr, hst, hbs, h0, h1, hw⟩ := hp
  dsimp only at hr hst hbs h0 h1 hw
  subst hbs
  have e1 : (i + 1).toNat = i.toNat + 1 := by omega
  have g1 := atI_int h0 (at_get (show i.toNat < r.length by omega))
  have g2 := atI_int (show 0 ≤ i + 1 by omega) (by rw [e1]; exact at_get h1)
  have g3 := atI_int h0 (bg_get (fx := fxOf ch) (show i.toNat < r.length by omega))
  have g4 := atI_int (show 0 ≤ i + 1 by omega) (by rw [e1]; exact bg_get (fx := fxOf ch) h1)
  obtain ⟨a, ha, oa⟩ := hr.fx _ (at_mem (show i.toNat < r.length by omega))
  obtain ⟨b, hb, ob⟩ := hr.fx _ (at_mem h1)
  have l2 := bg_lt hst h1
  have l1 := hr.lnLe h1
  have c3 : Bd 30 (b.1 - a.1) := Bd.of (by have := oa.x1; have := ob.x0; omega) (by have := oa.x0; have := ob.x1; omega)
  have c4 : Bd 30 (b.2 - a.2) := Bd.of (by have := oa.y1; have := ob.y0; omega) (by have := oa.y0; have := ob.y1; omega)
  have c5 : Bd 30 (bg (fxOf ch) r (i.toNat + 1) - bg (fxOf ch) r i.toNat) := Bd.of (by omega) (by omega)
  obtain ⟨x1, x2⟩ := hw.x
  obtain ⟨y1, y2⟩ := hw.y
  obtain ⟨z1, z2⟩ := hw.e
  dsimp only at x1 x2 y1 y2 z1 z2
  have c6 : Bd 20 wx := Bd.of (by omega) (by omega)
  have c7 : Bd 20 wy := Bd.of (by omega) (by omega)
  have c8 : Bd 20 er := Bd.of (by omega) (by omega)
  have hlen : 0 < bg (fxOf ch) r (i.toNat + 1) - bg (fxOf ch) r i.toNat := by omega
  show DS _ K ⟨[], _, G, H, []⟩ [some ⟨rChart, ch⟩, some ⟨(rTpv rStr), r⟩, some ⟨(rLst rInt), begins (fxOf ch) r⟩, some ⟨rInt, i⟩, some ⟨rInt, sd⟩, some ⟨rInt, sl⟩, some ⟨rWnd, (tk, wx, wy, er)⟩, none, none, none, none, none] _ (defBody s_bounds) _
  refine s_set 7 (d_dk (rc := rPt) (d_recP 0 0 rfl chN_nd (d_keyS (d_ix (d_var 1 (d_var 3 (i_tpv g1 ⟨_, a, inferInstance, ha, ?_⟩)))))))
  refine s_set 8 (d_dk (rc := rPt) (d_recP 0 0 rfl chN_nd (d_keyS (d_ix (d_var 1 (d_bin (d_var 3 (d_int (o_add (i_tpv g2 ⟨_, b, inferInstance, hb, ?_⟩))))))))))
  refine s_set 9 (d_bin (d_ix (d_var 2 (d_bin (d_var 3 (d_int (o_add (i_lst g4 (d_ix (d_var 2 (d_var 3 (i_lst g3 (o_sub ?_)))))))))))))
  refine s_set 10 (d_bin (d_bin (d_ix (d_var (ra := rWnd) (x := (tk, wx, wy, er)) 6 (d_int (i_tup 1 (d_bin (d_ix (d_var (ra := rPt) (x := b) 8 (d_int (i_tup 0 (d_ix (d_var (ra := rPt) (x := a) 7 (d_int (i_tup 0 (o_sub (o_mul (by walk_at "sc") (d_bin (d_ix (d_var (ra := rWnd) (x := (tk, wx, wy, er)) 6 (d_int (i_tup 2 (d_bin (d_ix (d_var (ra := rPt) (x := b) 8 (d_int (i_tup 1 (d_ix (d_var (ra := rPt) (x := a) 7 (d_int (i_tup 1 (o_sub (o_mul (by walk_at "sc") (o_add ?_))))))))))))))))))))))))))))))))))
  refine s_set 11 (d_bin (d_ix (d_var (ra := rWnd) (x := (tk, wx, wy, er)) 6 (d_int (i_tup 3 (d_bin (d_callB T.abs bt_abs (da_one (d_bin (d_ix (d_var (ra := rPt) (x := b) 8 (d_int (i_tup 0 (d_ix (d_var (ra := rPt) (x := a) 7 (d_int (i_tup 0 (o_sub (c_abs (d_callB T.abs bt_abs (da_one (d_bin (d_ix (d_var (ra := rPt) (x := b) 8 (d_int (i_tup 1 (d_ix (d_var (ra := rPt) (x := a) 7 (d_int (i_tup 1 (o_sub (c_abs (o_add (o_mul (by walk_at "sc") ?_))))))))))))))))))))))))))))))))))
  refine s_ret (d_tup (da_cons (d_bin (d_bin (d_var 4 (d_var 5 (o_sub (d_bin (d_bin (d_var 10 (d_var 11 (o_sub (d_var 9 (o_div (divOk hlen) (o_add (da_one (d_bin (d_bin (d_var 4 (d_var 5 (o_add (d_bin (d_bin (d_var 10 (d_var 11 (o_add (d_var 9 (o_div (divOk hlen) (o_add (hk ⟨rfl, ?_⟩))))))))))))))))))))))))))))))
  dsimp only
  unfold bnd vec stpB push doubt
  rw [pt_of ha, pt_of hb]
structure TgOk (x : ChV × List Str × Int × Int) : Prop where
  ch : ChOk x.1
  rt : RtV x.1 x.2.1
  i0 : 0 ≤ x.2.2.1
  i1 : x.2.2.1.toNat + 1 < x.2.1.length
theorem lgAt_eq (legs : List Leg) (r : List Str) (k : Nat) : (lgb legs (at_ r k) (at_ r (k + 1))).getD dfl = lgAt legs r k := rfl
abbrev sp_law_target (K : Fg) : Sp := spF K [] (fCons rChart (fCons (rTpv rStr) (fCons rInt (fOne rInt)))) TgOk rInt fun x => tgt (lgOf x.1) x.2.1 x.2.2.2 x.2.2.1.toNat
theorem sc_law_target : FnScope ["_law_chart_here", "_law_route", "_law_k", "_law_level", "_law_leg_here", "_law_after"] ["_law_chart_here", "_law_route", "_law_k", "_law_level"] (defScope s_law_target) := ⟨rfl, rfl, rfl, by decide +kernel, rfl, by decide +kernel, by decide +kernel⟩
theorem ok_law_target (N : Nm K mg) (T : Bt mg) : FnOk P w K mg base CX0 2 N.law_target.f N.law_target.fd ["_law_chart_here", "_law_route", "_law_k", "_law_level"] (sp_law_target K) := by
  refine fn_m N.law_target.F sc_law_target [] fun cdv A outer s G H E x Q fam hp hk => ?_
  obtain ⟨ch, r, i, lv⟩ := x
  obtain ⟨hc, hr, h0, h1⟩ := hp
  dsimp only at hc hr h0 h1
  have hk' : ∀ {Γ : Gm} {d : Int}, d = tgt (lgOf ch) r lv i.toNat → RT K ⟨[], _, G, H, []⟩ Γ [] rInt d _ := fun {Γ d} e => hk ⟨rfl, e⟩
  clear hk
  unfold tgt at hk'
  have e1 : (i + 1).toNat = i.toNat + 1 := by omega
  have e2 : (i + 2).toNat = i.toNat + 2 := by omega
  have g1 := atI_int h0 (at_get (show i.toNat < r.length by omega))
  have g2 := atI_int (show 0 ≤ i + 1 by omega) (by rw [e1]; exact at_get h1)
  obtain ⟨l, hl⟩ := hr.lg _ h1
  show DS _ K ⟨[], _, G, H, []⟩ [some ⟨rChart, ch⟩, some ⟨(rTpv rStr), r⟩, some ⟨rInt, i⟩, some ⟨rInt, lv⟩, none, none] [] (defBody s_law_target) _
  refine s_set 4 (d_call N.leg (ok_leg N T) (da_cons (d_var 0 (da_cons (d_ix (d_var 1 (d_var 2 (i_tpv g1 (da_one (d_ix (d_var 1 (d_bin (d_var 2 (d_int (o_add (i_tpv g2 (sw_f ⟨hc.len, l, hl⟩ ?_)))))))))))))))))
  dsimp only
  rw [lgAt_eq]
  refine s_set 3 (d_callB T.min bt_min (da_cons (d_callB T.max bt_max (da_cons (d_var 3 (da_one (d_ix (d_var (ra := rLeg) (x := lgAt (lgOf ch) r i.toNat) 4 (d_int (i_tup 3 (c_max2 (da_one (d_ix (d_var (ra := rLeg) (x := lgAt (lgOf ch) r i.toNat) 4 (d_int (i_tup 4 (c_min2 ?_)))))))))))))))))
  refine s_ifP (x := decide (i + 2 < (r.length : Int))) (dt_cmp (d_bin (d_var 2 (d_int (o_add (d_callB T.len bt_len (da_one (d_var 1 (c_lenT (o_lt ⟨rfl, rfl⟩)))))))))) (fun hb => ?_) (fun hb => ?_)
  · have hb' := of_decide_eq_true hb
    have h3 : i.toNat + 2 < r.length := by omega
    have g3 := atI_int (show 0 ≤ i + 2 by omega) (by rw [e2]; exact at_get h3)
    obtain ⟨l2, hl2⟩ := hr.lg (i.toNat + 1) (by omega)
    refine s_set 5 (d_call N.leg (ok_leg N T) (da_cons (d_var 0 (da_cons (d_ix (d_var 1 (d_bin (d_var 2 (d_int (o_add (i_tpv g2 (da_one (d_ix (d_var 1 (d_bin (d_var 2 (d_int (o_add (i_tpv g3 (sw_f ⟨hc.len, l2, hl2⟩ ?_))))))))))))))))))))
    dsimp only
    rw [show (lgb (lgOf ch) (at_ r (i.toNat + 1)) (at_ r (i.toNat + 2))).getD dfl = lgAt (lgOf ch) r (i.toNat + 1) from rfl]
    refine s_set 3 (d_callB T.min bt_min (da_cons (d_callB T.max bt_max (da_cons (d_var 3 (da_one (d_ix (d_var (ra := rLeg) (x := lgAt (lgOf ch) r (i.toNat + 1)) 5 (d_int (i_tup 3 (c_max2 (da_one (d_ix (d_var (ra := rLeg) (x := lgAt (lgOf ch) r (i.toNat + 1)) 5 (d_int (i_tup 4 (c_min2 ?_)))))))))))))))))
    refine s_out (s_ret (d_var 3 (hk' ?_)))
    rw [if_pos h3]
    rfl
  · have hb' := of_decide_eq_false hb
    refine s_out (s_ret (d_var 3 (hk' ?_)))
    rw [if_neg (show ¬ i.toNat + 2 < r.length by omega)]
    rfl
abbrev sp_law_towards (K : Fg) : Sp := spF K [] (fCons rInt (fCons rInt (fOne rInt))) (fun _ => True) rInt fun x => tow x.1 x.2.1 x.2.2
theorem sc_law_towards : FnScope ["_law_level", "_law_goal", "_law_rate"] ["_law_level", "_law_goal", "_law_rate"] (defScope s_law_towards) := ⟨rfl, rfl, rfl, by decide +kernel, rfl, by decide +kernel, by decide +kernel⟩
theorem ok_law_towards (N : Nm K mg) (T : Bt mg) : FnOk P w K mg base CX0 1 N.law_towards.f N.law_towards.fd ["_law_level", "_law_goal", "_law_rate"] (sp_law_towards K) := by
  refine fn_m N.law_towards.F sc_law_towards [] fun cdv A outer s G H E x Q fam hp hk => ?_
  obtain ⟨lv, g, rt⟩ := x
  show DS _ K ⟨[], _, G, H, []⟩ [some ⟨rInt, lv⟩, some ⟨rInt, g⟩, some ⟨rInt, rt⟩] _ (defBody s_law_towards) _
  refine s_ifP (dt_cmp (d_var 0 (d_var 1 (o_lt ⟨rfl, rfl⟩)))) (fun hb => ?_) (fun hb => ?_)
  · refine s_ret (d_callB T.min bt_min (da_cons (d_bin (d_var 0 (d_var 2 (o_add (da_one (d_var 1 (c_min2 (hk ⟨rfl, ?_⟩))))))))))
    unfold tow
    dsimp only
    rw [if_pos (of_decide_eq_true hb)]
  · refine s_out (s_ret (d_callB T.max bt_max (da_cons (d_bin (d_var 0 (d_var 2 (o_sub (da_one (d_var 1 (c_max2 (hk ⟨rfl, ?_⟩)))))))))))
    unfold tow
    dsimp only
    rw [if_neg (of_decide_eq_false hb)]
end
end Law
set_option Elab.async false
set_option linter.all false
set_option maxRecDepth 100000
set_option maxHeartbeats 4100000
/-! CrA: winds, targets, levels of a course (shared by the laws of tubes). -/
namespace Law
open PySem L2 Evl Sk MP M10
local macro_rules | `(tactic| walk_at "sc") => `(tactic| first | omega | assumption | (with_reducible exact mulOk) | (with_reducible exact smOk) | (with_reducible exact ⟨by decide, smOk⟩) | decide | (simp only [List.length_cons, List.length_nil]; decide) | exact divOk (by omega))
section
variable {P : Program} {w : World} {K : PySem.W.Frag} {mg : Str → Option Value} {base : Heap}
abbrev sp_wind_at (K : Fg) : Sp := spF K [] (fCons (rLst rWnd) (fOne rInt)) (fun x => 0 < x.1.length) rWnd fun x => windAt x.1 x.2
theorem sc_wind_at : FnScope ["winds", "tick", "found", "wind"] ["winds", "tick"] (defScope s_wind_at) := ⟨rfl, rfl, rfl, by decide +kernel, rfl, by decide +kernel, by decide +kernel⟩
theorem ok_wind_at (N : Nm K mg) (T : Bt mg) : FnOk P w K mg base CX0 1 N.wind_at.f N.wind_at.fd ["winds", "tick"] (sp_wind_at K) := by
  refine fn_m N.wind_at.F sc_wind_at [] fun cdv A outer s G H E x Q fam hp hk => ?_
  obtain ⟨ws, t⟩ := x
  have hp' : 0 < ws.length := hp
  show DS _ K ⟨[], _, G, H, []⟩ [some ⟨(rLst rWnd), ws⟩, some ⟨rInt, t⟩, none, none] _ (defBody s_wind_at) _
  refine s_set 2 (d_ix (d_var 0 (d_int (i_lst (atI_getD (0, 0, 0, 0) (by decide) (by omega)) ?_))))
  refine s_for (js := [3]) (w_lst (d_var 0 ?_))
  refine ⟨Nat, fun i d => d = i ∧ i ≤ ws.length, fun d => [some ⟨rLst rWnd, ws⟩, some ⟨rInt, t⟩, some ⟨rWnd, (ws.take d).foldl (stp t) (ws.getD 0 (0, 0, 0, 0))⟩, none], fun _ => [], ⟨0, ⟨rfl, Nat.zero_le _⟩, ⟨rfl, rfl, rfl, trivial⟩, rfl⟩, fun g i x d hx hd => (g_name 3 ?_), fun d hd => ?_⟩
  · obtain ⟨rfl, hd1⟩ := hd
    have hlt := (List.getElem?_eq_some_iff.mp hx).1
    refine s_ifP (dt_cmp (d_ix (d_var 3 (d_int (i_tup 0 (d_var 1 (o_le ⟨rfl, rfl⟩))))))) (fun hb => ?_) (fun hb => ?_)
    · refine s_set 2 (d_var 3 (s_out ?_))
      refine s_next (d + 1) ⟨rfl, hlt⟩ ⟨rfl, rfl, congrArg (Slot.mk rWnd) ?_, trivial⟩ rfl
      rw [take_fold t hx]
      unfold stp
      rw [if_pos (of_decide_eq_true hb)]
    · refine s_out ?_
      refine s_next (d + 1) ⟨rfl, hlt⟩ ⟨rfl, rfl, congrArg (Slot.mk rWnd) ?_, trivial⟩ rfl
      rw [take_fold t hx]
      unfold stp
      rw [if_neg (of_decide_eq_false hb)]
  · obtain ⟨rfl, _⟩ := hd
    refine s_ret (d_var 2 (hk ⟨rfl, ?_⟩))
    rw [List.take_length]
structure StepOk (x : P3 × Int × Int × W4) : Prop where
  len : 0 < x.1.2.2
  bl : Bd 30 x.1.2.2
  bx : Bd 30 x.1.1
  bY : Bd 30 x.1.2.1
  wx : Bd 30 x.2.2.2.2.1
  wy : Bd 30 x.2.2.2.2.2.1
  er : Bd 30 x.2.2.2.2.2.2
abbrev sp_step_bounds (K : Fg) : Sp := spF K [] (fCons rP3 (fCons rInt (fCons rInt (fOne rWnd)))) StepOk rPr fun x => stpB x.1 x.2.1 x.2.2.1 x.2.2.2
theorem sc_step_bounds : FnScope ["vector", "speed", "slip", "wind", "push", "doubt", "dx", "dy", "length", "_", "wx", "wy", "error"] ["vector", "speed", "slip", "wind"] (defScope s_step_bounds) := ⟨rfl, rfl, rfl, by decide +kernel, rfl, by decide +kernel, by decide +kernel⟩
theorem ok_step_bounds (N : Nm K mg) (T : Bt mg) : FnOk P w K mg base CX0 1 N.step_bounds.f N.step_bounds.fd ["vector", "speed", "slip", "wind"] (sp_step_bounds K) := by
  refine fn_m N.step_bounds.F sc_step_bounds [] fun cdv A outer s G H E x Q fam hp hk => ?_
  obtain ⟨⟨dx, dy, len⟩, sd, sl, tk, wx, wy, er⟩ := x
  obtain ⟨h1, h2, h3, h4, h5, h6, h7⟩ := hp
  dsimp only at h1 h2 h3 h4 h5 h6 h7
  show DS _ K ⟨[], _, G, H, []⟩ [some ⟨rP3, (dx, dy, len)⟩, some ⟨rInt, sd⟩, some ⟨rInt, sl⟩, some ⟨rWnd, (tk, wx, wy, er)⟩, none, none, none, none, none, none, none, none, none] _ (defBody s_step_bounds) _
  refine s_asg (js := [6, 7, 8]) (d_var 0 (g_tup (gs_cons (g_name 6 (gs_cons (g_name 7 (gs_one (g_name 8 ?_))))))))
  refine s_asg (js := [9, 10, 11, 12]) (d_var 3 (g_tup (gs_cons (g_name 9 (gs_cons (g_name 10 (gs_cons (g_name 11 (gs_one (g_name 12 ?_))))))))))
  dsimp only
  refine s_set 4 (d_bin (d_bin (d_var 10 (d_var 6 (o_mul (by walk_at "sc") (d_bin (d_var 11 (d_var 7 (o_mul (by walk_at "sc") (o_add ?_))))))))))
  refine s_set 5 (d_bin (d_var 12 (d_bin (d_callB T.abs bt_abs (da_one (d_var 6 (c_abs (d_callB T.abs bt_abs (da_one (d_var 7 (c_abs (o_add (o_mul (by walk_at "sc") ?_)))))))))))))
  refine s_ret (d_tup (da_cons (d_bin (d_bin (d_var 1 (d_var 2 (o_sub (d_bin (d_bin (d_var 4 (d_var 5 (o_sub (d_var 8 (o_div (divOk h1) (o_add (da_one (d_bin (d_bin (d_var 1 (d_var 2 (o_add (d_bin (d_bin (d_var 4 (d_var 5 (o_add (d_var 8 (o_div (divOk h1) (o_add (hk ⟨rfl, rfl⟩))))))))))))))))))))))))))))))
abbrev sp_into_range (K : Fg) : Sp := spF K [] (fCons rInt (fOne rLeg)) (fun _ => True) rInt fun x => inR x.1 x.2
theorem sc_into_range : FnScope ["level", "leg"] ["level", "leg"] (defScope s_into_range) := ⟨rfl, rfl, rfl, by decide +kernel, rfl, by decide +kernel, by decide +kernel⟩
theorem ok_into_range (N : Nm K mg) (T : Bt mg) : FnOk P w K mg base CX0 1 N.into_range.f N.into_range.fd ["level", "leg"] (sp_into_range K) := by
  refine fn_m N.into_range.F sc_into_range [] fun cdv A outer s G H E x Q fam hp hk => ?_
  obtain ⟨lv, l⟩ := x
  show DS _ K ⟨[], _, G, H, []⟩ [some ⟨rInt, lv⟩, some ⟨rLeg, l⟩] _ (defBody s_into_range) _
  exact s_ret (d_callB T.min bt_min (da_cons (d_callB T.max bt_max (da_cons (d_var 0 (da_one (d_ix (d_var (ra := rLeg) (x := l) 1 (d_int (i_tup 3 (c_max2 (da_one (d_ix (d_var (ra := rLeg) (x := l) 1 (d_int (i_tup 4 (c_min2 (hk ⟨rfl, rfl⟩))))))))))))))))))
abbrev sp_target (C : Addr) (K : Fg) : Sp := spF K [] (fCons (rPath C) (fCons rCrs (fOne rInt))) (fun x => RtV x.1.1 x.1.2 ∧ 0 ≤ x.2.2 ∧ x.2.2.toNat + 1 < x.1.2.length) rInt fun x => tgt (lgOf x.1.1) x.1.2 x.2.1.2.2 x.2.2.toNat
theorem sc_target : FnScope ["path", "course", "index", "level"] ["path", "course", "index"] (defScope s_target) := ⟨rfl, rfl, rfl, by decide +kernel, rfl, by decide +kernel, by decide +kernel⟩
theorem ok_target (N : Nm K mg) (T : Bt mg) : FnOk P w K mg base CX0 2 N.target.f N.target.fd ["path", "course", "index"] (sp_target N.cPath K) := by
  refine fn_m N.target.F sc_target [] fun cdv A outer s G H E x Q fam hp hk => ?_
  obtain ⟨⟨ch, r⟩, ⟨cr, sd, lv⟩, i⟩ := x
  obtain ⟨hr, h0, h1⟩ := hp
  dsimp only at hr h0 h1
  have hk' : ∀ {Γ : Gm} {d : Int}, d = tgt (lgOf ch) r lv i.toNat → RT K ⟨[], _, G, H, []⟩ Γ [] rInt d _ := fun {Γ d} e => hk ⟨rfl, e⟩
  clear hk
  unfold tgt at hk'
  show DS _ K ⟨[], _, G, H, []⟩ [some ⟨rPath N.cPath, (ch, r)⟩, some ⟨rCrs, (cr, sd, lv)⟩, some ⟨rInt, i⟩, none] [] (defBody s_target) _
  refine s_set 3 (d_call N.into_range (ok_into_range N T) (da_cons (d_ix (d_var (ra := rCrs) (x := (cr, sd, lv)) 1 (d_int (i_tup 2 (da_one (d_meth N.kPath N.mPath_leg (ok_Path_leg N T) (d_var 0 ⟨_, inferInstance, (da_one (d_var 2 (sw_f ⟨hr, h0, by dsimp only; omega⟩ (sw_f trivial ?_))))⟩)))))))))
  refine s_ifP (dt_cmp (d_bin (d_var 2 (d_int (o_add (d_meth0 N.kPath N.mPath_legs (ok_Path_legs N T) (d_var 0 ⟨_, inferInstance, (sw_f hr (o_lt ⟨rfl, rfl⟩))⟩))))))) (fun hb => ?_) (fun hb => ?_)
  · have hb' := of_decide_eq_true hb
    dsimp only at hb'
    have e1 : (i + 1).toNat = i.toNat + 1 := by omega
    refine s_set 3 (d_call N.into_range (ok_into_range N T) (da_cons (d_var 3 (da_one (d_meth N.kPath N.mPath_leg (ok_Path_leg N T) (d_var 0 ⟨_, inferInstance, (da_one (d_bin (d_var 2 (d_int (o_add (sw_f ⟨hr, by dsimp only; omega, by dsimp only; omega⟩ (sw_f trivial ?_)))))))⟩))))))
    refine s_out (s_ret (d_var 3 (hk' ?_)))
    rw [if_pos (by omega), e1]
  · have hb' := of_decide_eq_false hb
    dsimp only at hb'
    refine s_out (s_ret (d_var 3 (hk' ?_)))
    rw [if_neg (by omega)]
abbrev sp_towards (K : Fg) : Sp := spF K [] (fCons rInt (fCons rInt (fOne rInt))) (fun _ => True) rInt fun x => tow x.1 x.2.1 x.2.2
theorem sc_towards : FnScope ["level", "goal", "rate"] ["level", "goal", "rate"] (defScope s_towards) := ⟨rfl, rfl, rfl, by decide +kernel, rfl, by decide +kernel, by decide +kernel⟩
theorem ok_towards (N : Nm K mg) (T : Bt mg) : FnOk P w K mg base CX0 1 N.towards.f N.towards.fd ["level", "goal", "rate"] (sp_towards K) := by
  refine fn_m N.towards.F sc_towards [] fun cdv A outer s G H E x Q fam hp hk => ?_
  obtain ⟨lv, g, rt⟩ := x
  show DS _ K ⟨[], _, G, H, []⟩ [some ⟨rInt, lv⟩, some ⟨rInt, g⟩, some ⟨rInt, rt⟩] _ (defBody s_towards) _
  refine s_ifP (dt_cmp (d_var 0 (d_var 1 (o_lt ⟨rfl, rfl⟩)))) (fun hb => ?_) (fun hb => ?_)
  · refine s_ret (d_callB T.min bt_min (da_cons (d_bin (d_var 0 (d_var 2 (o_add (da_one (d_var 1 (c_min2 (hk ⟨rfl, ?_⟩))))))))))
    unfold tow
    dsimp only
    rw [if_pos (of_decide_eq_true hb)]
  · refine s_out (s_ret (d_callB T.max bt_max (da_cons (d_bin (d_var 0 (d_var 2 (o_sub (da_one (d_var 1 (c_max2 (hk ⟨rfl, ?_⟩)))))))))))
    unfold tow
    dsimp only
    rw [if_neg (of_decide_eq_false hb)]
abbrev sp_next_levels (K : Fg) : Sp := spF K [] (fCons rK5 (fCons rInt (fCons rInt (fOne rInt)))) (fun _ => True) rPr fun x => nlv x.1 x.2.1 x.2.2.1 x.2.2.2
theorem sc_next_levels : FnScope ["kind", "goal", "down", "up", "new_down", "new_up", "_", "least", "most"] ["kind", "goal", "down", "up"] (defScope s_next_levels) := ⟨rfl, rfl, rfl, by decide +kernel, rfl, by decide +kernel, by decide +kernel⟩
theorem ok_next_levels (N : Nm K mg) (T : Bt mg) : FnOk P w K mg base CX0 2 N.next_levels.f N.next_levels.fd ["kind", "goal", "down", "up"] (sp_next_levels K) := by
  refine fn_m N.next_levels.F sc_next_levels [] fun cdv A outer s G H E x Q fam hp hk => ?_
  obtain ⟨⟨k1, k2, k3, k4, k5⟩, g, dn, up⟩ := x
  show DS _ K ⟨[], _, G, H, []⟩ [some ⟨rK5, (k1, k2, k3, k4, k5)⟩, some ⟨rInt, g⟩, some ⟨rInt, dn⟩, some ⟨rInt, up⟩, none, none, none, none, none] _ (defBody s_next_levels) _
  refine s_asg (js := [6, 6, 6, 7, 8]) (ra := rK5) (d_var 0 (g_tup (gs_cons (g_name 6 (gs_cons (g_name 6 (gs_cons (g_name 6 (gs_cons (g_name 7 (gs_one (g_name 8 ?_))))))))))))
  dsimp only
  refine s_set 4 (d_call N.towards (ok_towards N T) (da_cons (d_var 2 (da_cons (d_var 1 (da_one (d_abs (fun rt => rt = if dn < g then k4 else k5) (fun rt hrt => (sw_f trivial ?_)) (d_iteP (dt_cmp (d_var 2 (d_var 1 (o_lt ⟨rfl, rfl⟩)))) (fun hb => (d_var 7 ⟨by rw [if_pos (of_decide_eq_true hb)], rfl⟩)) (fun hb => (d_var 8 ⟨by rw [if_neg (of_decide_eq_false hb)], rfl⟩))))))))))
  subst hrt
  refine s_set 5 (d_call N.towards (ok_towards N T) (da_cons (d_var 3 (da_cons (d_var 1 (da_one (d_abs (fun rt => rt = if up < g then k5 else k4) (fun rt hrt => (sw_f trivial ?_)) (d_iteP (dt_cmp (d_var 3 (d_var 1 (o_lt ⟨rfl, rfl⟩)))) (fun hb => (d_var 8 ⟨by rw [if_pos (of_decide_eq_true hb)], rfl⟩)) (fun hb => (d_var 7 ⟨by rw [if_neg (of_decide_eq_false hb)], rfl⟩))))))))))
  subst hrt
  exact s_ret (d_tup (da_cons (d_var 4 (da_one (d_var 5 (hk ⟨rfl, rfl⟩))))))
end
end Law
set_option Elab.async false
set_option linter.all false
set_option maxRecDepth 100000
set_option maxHeartbeats 4100000
/-! CrB: the next box (shared by the laws of tubes). -/
namespace Law
open PySem L2 Evl Sk MP M10
local macro_rules | `(tactic| walk_at "sc") => `(tactic| first | omega | assumption | (with_reducible exact mulOk) | (with_reducible exact smOk) | (with_reducible exact ⟨by decide, smOk⟩) | decide | (simp only [List.length_cons, List.length_nil]; decide) | exact divOk (by omega))
section
variable {P : Program} {w : World} {K : PySem.W.Frag} {mg : Str → Option Value} {base : Heap}
theorem step_ok {ch : ChV} {r : List Str} {sd sl : Int} {w : W4} (hr : RtV ch r) (hs : Strict (fxOf ch) r) (hw : WnOk w) {i : Nat} (hi : i + 1 < r.length) : StepOk (vec (fxOf ch) r i, sd, sl, w) := by
  obtain ⟨a1, a2, a3, a4⟩ := hr.ptOk (show i < r.length by omega)
  obtain ⟨b1, b2, b3, b4⟩ := hr.ptOk hi
  have l1 := hr.lnLe hi
  have l2 := bg_lt hs hi
  obtain ⟨x1, x2⟩ := hw.x
  obtain ⟨y1, y2⟩ := hw.y
  obtain ⟨e1, e2⟩ := hw.e
  refine ⟨?_, Bd.of ?_ ?_, Bd.of ?_ ?_, Bd.of ?_ ?_, Bd.of ?_ ?_, Bd.of ?_ ?_, Bd.of ?_ ?_⟩ <;> unfold vec <;> dsimp only <;> omega
structure BoOk (x : PR × Int × CrV × RuV × W4) : Prop where
  rt : RtV x.1.1 x.1.2
  st : Strict (fxOf x.1.1) x.1.2
  i0 : 0 ≤ x.2.1
  i1 : x.2.1.toNat + 1 < x.1.2.length
  wn : WnOk x.2.2.2.2
abbrev sp_bounds_on (C : Addr) (K : Fg) : Sp := spF K [] (fCons (rPath C) (fCons rInt (fCons rCrs (fCons rRules (fOne rWnd))))) BoOk rPr fun x => bnd (fxOf x.1.1) x.1.2 x.2.2.1.2.1 (slipOf x.2.2.2.1) x.2.2.2.2 x.2.1.toNat
theorem sc_bounds_on : FnScope ["path", "index", "course", "rules", "wind"] ["path", "index", "course", "rules", "wind"] (defScope s_bounds_on) := ⟨rfl, rfl, rfl, by decide +kernel, rfl, by decide +kernel, by decide +kernel⟩
theorem ok_bounds_on (N : Nm K mg) (T : Bt mg) : FnOk P w K mg base CX0 2 N.bounds_on.f N.bounds_on.fd ["path", "index", "course", "rules", "wind"] (sp_bounds_on N.cPath K) := by
  refine fn_m N.bounds_on.F sc_bounds_on [] fun cdv A outer s G H E x Q fam hp hk => ?_
  obtain ⟨⟨ch, r⟩, i, cr, ru, wn⟩ := x
  obtain ⟨hr, hs, h0, h1, hw⟩ := hp
  dsimp only at hr hs h0 h1 hw
  show DS _ K ⟨[], _, G, H, []⟩ [some ⟨rPath N.cPath, (ch, r)⟩, some ⟨rInt, i⟩, some ⟨rCrs, cr⟩, some ⟨rRules, ru⟩, some ⟨rWnd, wn⟩] _ (defBody s_bounds_on) _
  exact s_ret (d_call N.step_bounds (ok_step_bounds N T) (da_cons (d_meth N.kPath N.mPath_vector (ok_Path_vector N T) (d_var 0 ⟨_, inferInstance, (da_one (d_var 1 (sw_f ⟨hr, h0, h1⟩ (da_cons (d_ix (d_var (ra := rCrs) (x := cr) 2 (d_int (i_tup 1 (da_cons (d_recP 3 4 rfl ruN_nd (da_one (d_var 4 (sw_f (step_ok hr hs hw h1) (hk ⟨rfl, rfl⟩))))))))))))))⟩))))
abbrev NxA := PR × CrV × K5 × RuV × List W4 × Int × B4
/-- what the next box hangs on -/
abbrev nbIn (x : NxA) : NbIn := ⟨fxOf x.1.1, lgOf x.1.1, x.1.2, x.2.1.2.1, x.2.1.2.2, x.2.2.1, slipOf x.2.2.2.1, windAt x.2.2.2.2.1 x.2.2.2.2.2.1⟩
structure NxOk (x : NxA) : Prop where
  rt : RtV x.1.1 x.1.2
  st : Strict (fxOf x.1.1) x.1.2
  wd : WdOk x.2.2.2.2.1
  kd : x.2.2.1.2.2.2.1 ≤ x.2.2.1.2.2.2.2
  bx : BoxOk x.2.2.2.2.2.2
abbrev N_next_box : List Str := ["path", "course", "kind", "rules", "winds", "tick", "box", "wind", "first", "last", "boxes", "index", "low", "high", "down", "up", "start", "end", "least", "most", "new_down", "new_up", "each"]
abbrev sp_next_box (C : Addr) (K : Fg) : Sp := sp0 K [] (fCons (rPath C) (fCons rCrs (fCons rK5 (fCons rRules (fCons (rLst rWnd) (fCons rInt (fOne rB4))))))) NxOk rB4 fun x y => NbOk (nbIn x) x.2.2.2.2.2.2 y
theorem sc_next_box : FnScope N_next_box ["path", "course", "kind", "rules", "winds", "tick", "box"] (defScope s_next_box) := ⟨rfl, rfl, rfl, by decide +kernel, rfl, by decide +kernel, by decide +kernel⟩
theorem ok_next_box (N : Nm K mg) (T : Bt mg) : FnOk P w K mg base CX0 3 N.next_box.f N.next_box.fd ["path", "course", "kind", "rules", "winds", "tick", "box"] (sp_next_box N.cPath K) := by
  refine fn_m N.next_box.F sc_next_box [] fun cdv A outer s G H E x Q fam hp hk => ?_
  obtain ⟨⟨ch, r⟩, ⟨cr, sd, lv⟩, kd, ru, ws, t, b⟩ := x
  obtain ⟨hr, hs, hw, hkd, hb⟩ := hp
  dsimp only at hr hs hw hkd hb
  have hk' : ∀ {Γ : Gm} {O : List Own} {y : B4}, NbOk ⟨fxOf ch, lgOf ch, r, sd, lv, kd, slipOf ru, windAt ws t⟩ b y → RT K ⟨[], _, G, H, []⟩ Γ O rB4 y _ := fun {Γ O y} e => rt_drop (hk ⟨rfl, e⟩)
  clear hk
  have z1 : 100000 ≤ sizeLine := by decide
  have h2 := hr.two
  have hlen := hr.len
  have hwn := hw.ok t
  have w0 : 0 < ws.length := by
    obtain ⟨w', q, _⟩ := hw.first
    exact (List.getElem?_eq_some_iff.mp q).1
  have A1 := (la_ok (fxOf ch) h2 b.1).lt
  have A2 := (la_ok (fxOf ch) h2 b.2.1).lt
  have A3 := la_mono (fxOf ch) h2 hb.p
  obtain ⟨lo, hi, dn, up⟩ := b
  dsimp only at A1 A2 A3
  show DS _ K ⟨[], _, G, H, []⟩ [some ⟨rPath N.cPath, (ch, r)⟩, some ⟨rCrs, (cr, sd, lv)⟩, some ⟨rK5, kd⟩, some ⟨rRules, ru⟩, some ⟨(rLst rWnd), ws⟩, some ⟨rInt, t⟩, some ⟨rB4, (lo, hi, dn, up)⟩, none, none, none, none, none, none, none, none, none, none, none, none, none, none, none, none] [] (defBody s_next_box) _
  refine s_asg (js := [12, 13, 14, 15]) (ra := rB4) (d_var 6 (g_tup (gs_cons (g_name 12 (gs_cons (g_name 13 (gs_cons (g_name 14 (gs_one (g_name 15 ?_))))))))))
  dsimp only
  refine s_set 7 (d_call N.wind_at (ok_wind_at N T) (da_cons (d_var 4 (da_one (d_var 5 (sw_f w0 ?_))))))
  refine s_set 8 (d_meth N.kPath N.mPath_leg_at (ok_Path_leg_at N T) (d_var 0 ⟨_, inferInstance, (da_one (d_var 12 (sw_f hr ?_)))⟩))
  refine s_set 9 (d_meth N.kPath N.mPath_leg_at (ok_Path_leg_at N T) (d_var 0 ⟨_, inferInstance, (da_one (d_var 13 (sw_f hr ?_)))⟩))
  dsimp only
  refine s_set 10 (d_lstO (ra := rB4) (da_all0 ⟨(by walk_at "sc"), fun q10 hq10 => ?_⟩))
  refine s_for (js := [11]) (w_rng2 T.range (d_var 8 (d_bin (d_var 9 (d_int (o_add ⟨(by omega), ?_⟩))))))
  generalize ef : la (fxOf ch) r lo = f at *
  generalize el : la (fxOf ch) r hi = l at *
  have hcnt : ((l : Int) + 1 - (f : Int)).toNat = l + 1 - f := by omega
  rw [hcnt]
  refine ⟨Nat, fun i d => d = i ∧ i ≤ l + 1 - f, fun _ => [some ⟨rPath N.cPath, (ch, r)⟩, some ⟨rCrs, (cr, sd, lv)⟩, some ⟨rK5, kd⟩, some ⟨rRules, ru⟩, none, none, none, some ⟨rWnd, windAt ws t⟩, some ⟨rInt, (f : Int)⟩, some ⟨rInt, (l : Int)⟩, some ⟨rAdr, q10⟩, none, some ⟨rInt, lo⟩, some ⟨rInt, hi⟩, some ⟨rInt, dn⟩, some ⟨rInt, up⟩, none, none, none, none, none, none, none],
    fun d => [⟨q10, oLst rB4, (List.range d).map fun j => nbRow ⟨fxOf ch, lgOf ch, r, sd, lv, kd, slipOf ru, windAt ws t⟩ (lo, hi, dn, up) (f + j)⟩], ⟨0, ⟨rfl, Nat.zero_le _⟩, ⟨rfl, rfl, rfl, rfl, rfl, rfl, rfl, rfl, rfl, rfl, rfl, rfl, trivial⟩, rfl⟩, fun g i x d hx hd => (g_name 11 ?_), fun d hd => ?_⟩
  · obtain ⟨rfl, _⟩ := hd
    obtain ⟨hlt, ex⟩ := rgI_item hx
    have ex : x = ((f + d : Nat) : Int) := by omega
    subst ex
    have hi1 : f + d + 1 < r.length := by omega
    refine s_asg (js := [18, 19]) (ra := rPr) (d_call N.bounds_on (ok_bounds_on N T) (da_cons (d_var 0 (da_cons (d_var 11 (da_cons (d_var 1 (da_cons (d_var 3 (da_one (d_var 7 (sw_f ⟨hr, hs, Int.natCast_nonneg _, by dsimp only; rw [Int.toNat_natCast]; exact hi1, hwn⟩ (g_tup (gs_cons (g_name 18 (gs_one (g_name 19 ?_)))))))))))))))))
    dsimp only
    rw [Int.toNat_natCast]
    refine s_set 16 (d_abs (fun y => y = stA (fxOf ch) r (lo, hi, dn, up) (f + d)) (fun y hy => ?_) (d_iteP (dt_cmp (d_var 11 (d_var 8 (o_eqI ⟨rfl, rfl⟩)))) (fun hb => (d_var 12 ⟨?_, rfl⟩)) (fun hb => (d_meth N.kPath N.mPath_begin (ok_Path_begin N T) (d_var 0 ⟨_, inferInstance, (da_one (d_var 11 (sw_f ⟨hr, Int.natCast_nonneg _, by dsimp only; rw [Int.toNat_natCast]; omega⟩ ⟨?_, rfl⟩)))⟩)))))
    rotate_left
    · have := of_decide_eq_true hb
      unfold stA
      rw [if_pos (by dsimp only; rw [ef]; omega)]
    · have := of_decide_eq_false hb
      unfold stA
      rw [if_neg (by dsimp only; rw [ef]; omega)]
      dsimp only
      rw [Int.toNat_natCast]
    subst hy
    refine s_set 17 (d_abs (fun y => y = enA (fxOf ch) r (lo, hi, dn, up) (f + d)) (fun y hy => ?_) (d_iteP (dt_cmp (d_var 11 (d_var 9 (o_eqI ⟨rfl, rfl⟩)))) (fun hb => (d_var 13 ⟨?_, rfl⟩)) (fun hb => (d_bin (d_meth N.kPath N.mPath_begin (ok_Path_begin N T) (d_var 0 ⟨_, inferInstance, (da_one (d_bin (d_var 11 (d_int (o_add (sw_f ⟨hr, by dsimp only; omega, by dsimp only; omega⟩ (d_int (o_sub ⟨?_, rfl⟩))))))))⟩))))))
    rotate_left
    · have := of_decide_eq_true hb
      unfold enA
      rw [if_pos (by dsimp only; rw [el]; omega)]
    · have := of_decide_eq_false hb
      unfold enA
      rw [if_neg (by dsimp only; rw [el]; omega)]
      dsimp only
      rw [show (((f + d : Nat) : Int) + 1).toNat = f + d + 1 by omega]
    subst hy
    refine s_asg (js := [20, 21]) (ra := rPr) (d_call N.next_levels (ok_next_levels N T) (da_cons (d_var 2 (da_cons (d_call N.target (ok_target N T) (da_cons (d_var 0 (da_cons (d_var 1 (da_one (d_var 11 (sw_f ⟨hr, Int.natCast_nonneg _, by dsimp only; rw [Int.toNat_natCast]; exact hi1⟩ (da_cons (d_var 14 (da_one (d_var 15 (sw_f trivial (g_tup (gs_cons (g_name 20 (gs_one (g_name 21 ?_))))))))))))))))))))))
    dsimp only
    rw [Int.toNat_natCast]
    refine s_expr (d_app (ra := rB4) (d_var 10 ⟨_, _, inferInstance, (d_tup (da_cons (d_bin (d_var 16 (d_var 18 (o_add (da_cons (d_bin (d_var 17 (d_var 19 (o_add (da_cons (d_var 20 (da_one (d_var 21 ⟨_, _, inferInstance, ?_, ?_⟩)))))))))))))))⟩))
    · rw [List.length_map, List.length_range]
      omega
    · refine s_next (d + 1) ⟨rfl, by omega⟩ ⟨rfl, rfl, rfl, rfl, rfl, rfl, rfl, rfl, rfl, rfl, rfl, rfl, trivial⟩ ?_
      rw [List.range_succ (n := d), List.map_append]
      rfl
  · obtain ⟨rfl, _⟩ := hd
    rw [rgI_len]
    have erow : (List.range (l + 1 - f)).map (fun j => nbRow ⟨fxOf ch, lgOf ch, r, sd, lv, kd, slipOf ru, windAt ws t⟩ (lo, hi, dn, up) (f + j)) = nbRows ⟨fxOf ch, lgOf ch, r, sd, lv, kd, slipOf ru, windAt ws t⟩ (lo, hi, dn, up) := by
      unfold nbRows
      dsimp only
      rw [ef, el]
    dsimp only
    rw [erow]
    have hrl : (nbRows ⟨fxOf ch, lgOf ch, r, sd, lv, kd, slipOf ru, windAt ws t⟩ (lo, hi, dn, up)).length = l + 1 - f := by
      rw [← erow, List.length_map, List.length_range]
    have hpos : ∀ {γ : Type} (g : B4 → γ), 0 < ((nbRows ⟨fxOf ch, lgOf ch, r, sd, lv, kd, slipOf ru, windAt ws t⟩ (lo, hi, dn, up)).map g).length := fun g => by
      rw [List.length_map, hrl]
      omega
    have hsz : (nbRows ⟨fxOf ch, lgOf ch, r, sd, lv, kd, slipOf ru, windAt ws t⟩ (lo, hi, dn, up)).length ≤ sizeLine := by omega
    exact s_ret (d_tup (da_cons ((d_callB T.min bt_min (da_one (d_lcPw (js := [22]) (ra := rB4) (rb := rInt) (f := fun x : B4 => x.1) [("each", 22)] [22] (fun _ => blkOk_by (N := N_next_box) (sc := defScope s_next_box) (by decide +kernel)) (w_own (d_var 10 ⟨_, _, inferInstance, ⟨rfl, hsz, fun gg D ys x hx => (g_name 22 (d_ix (d_var (ra := rB4) (x := x) 22 (d_int (i_tup 0 ⟨rfl, rfl⟩))))), (c_minG (hpos _) (fun m0 m0a m0b => da_cons ((d_callB T.max bt_max (da_one (d_lcPw (js := [22]) (ra := rB4) (rb := rInt) (f := fun x : B4 => x.2.1) [("each", 22)] [22] (fun _ => blkOk_by (N := N_next_box) (sc := defScope s_next_box) (by decide +kernel)) (w_own (d_var 10 ⟨_, _, inferInstance, ⟨rfl, hsz, fun gg D ys x hx => (g_name 22 (d_ix (d_var (ra := rB4) (x := x) 22 (d_int (i_tup 1 ⟨rfl, rfl⟩))))), (c_maxG (hpos _) (fun m1 m1a m1b => da_cons ((d_callB T.min bt_min (da_one (d_lcPw (js := [22]) (ra := rB4) (rb := rInt) (f := fun x : B4 => x.2.2.1) [("each", 22)] [22] (fun _ => blkOk_by (N := N_next_box) (sc := defScope s_next_box) (by decide +kernel)) (w_own (d_var 10 ⟨_, _, inferInstance, ⟨rfl, hsz, fun gg D ys x hx => (g_name 22 (d_ix (d_var (ra := rB4) (x := x) 22 (d_int (i_tup 2 ⟨rfl, rfl⟩))))), (c_minG (hpos _) (fun m2 m2a m2b => da_one ((d_callB T.max bt_max (da_one (d_lcPw (js := [22]) (ra := rB4) (rb := rInt) (f := fun x : B4 => x.2.2.2) [("each", 22)] [22] (fun _ => blkOk_by (N := N_next_box) (sc := defScope s_next_box) (by decide +kernel)) (w_own (d_var 10 ⟨_, _, inferInstance, ⟨rfl, hsz, fun gg D ys x hx => (g_name 22 (d_ix (d_var (ra := rB4) (x := x) 22 (d_int (i_tup 3 ⟨rfl, rfl⟩))))), (c_maxG (hpos _) (fun m3 m3a m3b => hk' (nb_of h2 hs hb hkd m0a m0b m1a m1b m2a m2b m3a m3b)))⟩⟩))))))))⟩⟩))))))))⟩⟩))))))))⟩⟩))))))))
end
end Law
set_option Elab.async false
set_option linter.all false
set_option maxRecDepth 100000
set_option maxHeartbeats 4100000
/-! MT: tubes, plainly. -/
namespace MP
open PySem L2 Evl Sk M10
abbrev Hr' := Str × Str × Int × Int
/-- the leg is shut by the hour -/
def hrM (l : Leg) (t : Int) (h : Hr') : Bool := decide (h.1 = l.1) && (decide (h.2.1 = l.2.1) && (decide (h.2.2.1 ≤ t) && decide (t ≤ h.2.2.2)))
def shutK (hs : List Hr') (l : Leg) (t : Int) : Bool := hs.any (hrM l t)
/-- leg k is below the box -/
def OnB (fx : Fx) (r : List Str) (b : B4) (k : Nat) : Prop := 0 ≤ b.2.1 ∧ la fx r (mx b.1 0) ≤ k ∧ k ≤ la fx r b.2.1
def below (fx : Fx) (r : List Str) (b : B4) : List Int := if b.2.1 < 0 then [] else rgI (la fx r (mx b.1 0) : Int) 1 ((la fx r b.2.1 : Int) + 1 - (la fx r (mx b.1 0) : Int)).toNat
theorem below_get {fx : Fx} {r : List Str} {b : B4} {i : Nat} {x : Int} (h : (below fx r b)[i]? = some x) : ∃ k : Nat, x = (k : Int) ∧ OnB fx r b k ∧ k = la fx r (mx b.1 0) + i := by
  unfold below at h
  by_cases z : b.2.1 < 0
  · rw [if_pos z] at h
    simp at h
  · rw [if_neg z] at h
    obtain ⟨h1, h2⟩ := rgI_item h
    exact ⟨la fx r (mx b.1 0) + i, by omega, ⟨by omega, by omega, by omega⟩, rfl⟩
theorem below_of {fx : Fx} {r : List Str} {b : B4} {k : Nat} (h : OnB fx r b k) : ∃ i, i < (below fx r b).length ∧ k = la fx r (mx b.1 0) + i := by
  obtain ⟨h1, h2, h3⟩ := h
  refine ⟨k - la fx r (mx b.1 0), ?_, by omega⟩
  unfold below
  rw [if_neg (by omega), rgI_len]
  omega
theorem below_len {fx : Fx} {r : List Str} (h2 : 2 ≤ r.length) (b : B4) : (below fx r b).length ≤ r.length := by
  unfold below
  split
  · exact Nat.zero_le _
  · rw [rgI_len]
    have := Law.la_lt (fx := fx) h2 b.2.1
    omega
def LvOk (fx : Fx) (legs : List Leg) (r : List Str) (b : B4) : Prop := ∀ k, OnB fx r b k → (lgAt legs r k).2.2.2.1 ≤ b.2.2.1 ∧ b.2.2.2 ≤ (lgAt legs r k).2.2.2.2
def HrOk (fx : Fx) (legs : List Leg) (r : List Str) (hs : List Hr') (t : Int) (b : B4) : Prop := ∀ k, OnB fx r b k → shutK hs (lgAt legs r k) t = false
def HwOk (n : NbIn) (b : B4) : Prop := ∀ k, la n.fx n.r b.1 ≤ k → k ≤ la n.fx n.r b.2.1 → 1 ≤ (bnd n.fx n.r n.sp n.sl n.w k).1
structure TbIn where
  fx : Fx
  legs : List Leg
  r : List Str
  sp : Int
  lv : Int
  kd : K5
  sl : Int
  ws : List W4
  hs : List Hr'
def TbIn.nb (n : TbIn) (t : Int) : NbIn := ⟨n.fx, n.legs, n.r, n.sp, n.lv, n.kd, n.sl, windAt n.ws t⟩
structure St3 (n : TbIn) (t : Int) (b : B4) : Prop where
  lv : LvOk n.fx n.legs n.r b
  hr : HrOk n.fx n.legs n.r n.hs t b
  hw : HwOk (n.nb t) b
/-- the boxes so far, the box of now -/
inductive TubeSt (n : TbIn) (t0 : Int) (b0 : B4) : List B4 → B4 → Prop
  | nil : TubeSt n t0 b0 [] b0
  | snoc {bs : List B4} {b b' : B4} (h : TubeSt n t0 b0 bs b) (lt : b.1 < tot n.fx n.r) (len : bs.length < 240) (ok : St3 n (t0 + bs.length) b) (nx : NbOk (n.nb (t0 + bs.length)) b b') : TubeSt n t0 b0 (bs ++ [b]) b'
def CodeAt (n : TbIn) (t : Int) (b : B4) (c : Str) : Prop :=
  (c = "level" ∧ ¬ LvOk n.fx n.legs n.r b) ∨ (c = "shut" ∧ LvOk n.fx n.legs n.r b ∧ ¬ HrOk n.fx n.legs n.r n.hs t b) ∨ (c = "slow" ∧ LvOk n.fx n.legs n.r b ∧ HrOk n.fx n.legs n.r n.hs t b ∧ ¬ HwOk (n.nb t) b)
def SpOk (n : TbIn) : Prop := n.kd.2.1 ≤ n.sp ∧ n.sp ≤ n.kd.2.2.1
def TubeErr (n : TbIn) (t0 : Int) (b0 : B4) (c : Str) (t : Int) : Prop :=
  (c = "speed" ∧ t = t0 ∧ ¬ SpOk n) ∨ SpOk n ∧ ∃ bs b, TubeSt n t0 b0 bs b ∧ b.1 < tot n.fx n.r ∧ t = t0 + bs.length ∧ ((bs.length = 240 ∧ c = "long") ∨ (bs.length < 240 ∧ CodeAt n t b c))
def TubeOut (n : TbIn) (t0 : Int) (b0 : B4) (bs : List B4) : Prop := SpOk n ∧ ∃ b, TubeSt n t0 b0 bs b ∧ tot n.fx n.r ≤ b.1
theorem TubeSt.len {n : TbIn} {t0 : Int} {b0 : B4} {bs : List B4} {b : B4} (h : TubeSt n t0 b0 bs b) : bs.length ≤ 240 := by
  cases h with
  | nil => exact Nat.zero_le _
  | snoc h lt len ok nx =>
    rw [List.length_append]
    exact len
theorem TubeSt.box {n : TbIn} {t0 : Int} {b0 : B4} (h0 : BoxOk b0) (hs : ∀ t k, (bnd n.fx n.r n.sp n.sl (windAt n.ws t) (la n.fx n.r k)).1 ≤ (bnd n.fx n.r n.sp n.sl (windAt n.ws t) (la n.fx n.r k)).2) {bs : List B4} {b : B4} (h : TubeSt n t0 b0 bs b) : BoxOk b ∧ ∀ c ∈ bs, BoxOk c := by
  induction h with
  | nil => exact ⟨h0, fun c hc => absurd hc List.not_mem_nil⟩
  | snoc h lt len ok nx ih =>
    refine ⟨nx.box (hs _), fun c hc => ?_⟩
    rcases List.mem_append.mp hc with z | z
    · exact ih.2 c z
    · rw [List.mem_singleton.mp z]
      exact ih.1
/-- the i-th box; the one behind it (the last one: the box of now) -/
theorem TubeSt.at_ {n : TbIn} {t0 : Int} {b0 : B4} {bs : List B4} {b : B4} (h : TubeSt n t0 b0 bs b) : ∀ (i : Nat) (c : B4), bs[i]? = some c → c.1 < tot n.fx n.r ∧ St3 n (t0 + i) c ∧ ∃ c', ((bs ++ [b])[i + 1]? = some c') ∧ NbOk (n.nb (t0 + i)) c c' := by
  induction h with
  | nil => intro i c h; simp at h
  | @snoc bs b b' h lt len ok nx ih =>
    intro i c hc
    by_cases hi : i < bs.length
    · rw [List.getElem?_append_left hi] at hc
      obtain ⟨a1, a2, c', a3, a4⟩ := ih i c hc
      refine ⟨a1, a2, c', ?_, a4⟩
      rw [List.getElem?_append_left (by rw [List.length_append]; exact Nat.succ_lt_succ hi)]
      exact a3
    · rw [List.getElem?_append_right (by omega)] at hc
      have hi2 : i = bs.length := by
        have := (List.getElem?_eq_some_iff.mp hc).1
        simp only [List.length_cons, List.length_nil] at this
        omega
      subst hi2
      rw [Nat.sub_self] at hc
      have e : b = c := by simpa using hc
      subst e
      refine ⟨lt, ok, b', ?_, nx⟩
      rw [List.getElem?_append_right (by rw [List.length_append]; exact Nat.le_refl _), List.length_append]
      simp
theorem TubeSt.nil_eq {n : TbIn} {t0 : Int} {b0 : B4} {bs : List B4} {b : B4} (h : TubeSt n t0 b0 bs b) (e : bs = []) : b = b0 := by
  cases h with
  | nil => rfl
  | snoc h lt len ok nx => simp at e
theorem TubeSt.first {n : TbIn} {t0 : Int} {b0 : B4} {bs : List B4} {b : B4} (h : TubeSt n t0 b0 bs b) : (bs ++ [b])[0]? = some b0 := by
  induction h with
  | nil => rfl
  | @snoc bs b b' h lt len ok nx ih =>
    cases bs with
    | nil =>
      rw [h.nil_eq rfl]
      rfl
    | cons a r => exact ih
/-- the earliest, the latest tick -/
def winE (tt t : Int) : List B4 → Int
  | [] => t
  | b :: bs => if tt ≤ b.2.1 then t else winE tt (t + 1) bs
def win (tt t : Int) (bs : List B4) : Int × Int := (winE tt t bs, t + bs.length)
end MP
set_option Elab.async false
set_option linter.all false
set_option maxRecDepth 100000
set_option maxHeartbeats 4100000
/-! TuA: what is below a box; boxes that may not be flown (shared by the laws of tubes). -/
namespace Law
open PySem L2 Evl Sk MP M10
local macro_rules | `(tactic| walk_at "sc") => `(tactic| first | omega | assumption | (with_reducible exact mulOk) | (with_reducible exact smOk) | (with_reducible exact ⟨by decide, smOk⟩) | decide | (simp only [List.length_cons, List.length_nil]; decide) | exact divOk (by omega))
abbrev CeF (c : Str) (t : Int) : List (Str × V) := [("tick", .int t), ("code", .str c)]
theorem ce_msg {c : Str} {t : Int} {k : Nat} (hc : (reprText c).length ≤ 100000) (ht : Bd k t) (hk : k ≤ 1900) : ∀ v ∈ [V.str c, V.int t], MsgOk v := fun v hv => by
  rcases List.mem_cons.mp hv with z | z
  · rw [z]
    exact .inl ⟨c, rfl, hc⟩
  · rw [List.mem_singleton.mp z]
    exact msg_int ht hk
theorem xt_in {K : PySem.W.Frag} {B : Bs} {Γ : Gm} {O : List Own} {C : Addr} {fl : List (Str × V)} {W : WX} {g : Hp} (h : XT K B Γ O C fl W) : XT K (B.push g) Γ O C fl W := fun d σ G H Ww => h d σ G H Ww.unbase
section
variable {P : Program} {w : World} {K : PySem.W.Frag} {mg : Str → Option Value} {base : Heap}
abbrev sp_is_shut (K : Fg) : Sp := spF K [] (fCons rChart (fCons rLeg (fOne rInt))) (fun x => (hrOf x.1).length ≤ 1000) rBool fun x => shutK (hrOf x.1) x.2.1 x.2.2
abbrev N_is_shut : List Str := ["chart", "leg", "tick", "start", "end", "first", "last"]
theorem sc_is_shut : FnScope N_is_shut ["chart", "leg", "tick"] (defScope s_is_shut) := ⟨rfl, rfl, rfl, by decide +kernel, rfl, by decide +kernel, by decide +kernel⟩
theorem shut_in {hs : List Hr} {l : Leg} {t : Int} {i : Nat} {h : Hr} (hi : hs[i]? = some h) (hm : hrM l t h = true) : shutK hs l t = true := List.any_eq_true.mpr ⟨h, List.mem_of_getElem? hi, hm⟩
theorem shut_no {hs : List Hr} {l : Leg} {t : Int} (h : ∀ (j : Nat) (x : Hr), hs[j]? = some x → hrM l t x = false) : shutK hs l t = false := by
  unfold shutK
  rw [List.any_eq_false]
  intro x hx
  obtain ⟨j, hj⟩ := List.getElem?_of_mem hx
  rw [h j x hj]
  exact Bool.false_ne_true
theorem ok_is_shut (N : Nm K mg) (T : Bt mg) : FnOk P w K mg base CX0 1 N.is_shut.f N.is_shut.fd ["chart", "leg", "tick"] (sp_is_shut K) := by
  refine fn_m N.is_shut.F sc_is_shut [] fun cdv A outer s G H E x Q fam hp hk => ?_
  obtain ⟨ch, l, t⟩ := x
  have hk' : ∀ {Γ : Gm} {y : Bool}, y = shutK (hrOf ch) l t → RT K ⟨[], _, G, H, []⟩ Γ [] rBool y _ := fun {Γ y} e => hk ⟨rfl, e⟩
  clear hk
  show DS _ K ⟨[], _, G, H, []⟩ [some ⟨rChart, ch⟩, some ⟨rLeg, l⟩, some ⟨rInt, t⟩, none, none, none, none] [] (defBody s_is_shut) _
  refine s_for (js := [3, 4, 5, 6]) (w_lst (ra := rHour) (d_recP 0 5 rfl chN_nd ?_))
  refine ⟨Unit, fun i _ => ∀ (j : Nat) (x : Hr), j < i → (hrOf ch)[j]? = some x → hrM l t x = false, fun _ => [some ⟨rChart, ch⟩, some ⟨rLeg, l⟩, some ⟨rInt, t⟩, none, none, none, none], fun _ => [], ⟨(), fun j x h => absurd h (Nat.not_lt_zero _), ⟨rfl, rfl, rfl, trivial⟩, rfl⟩, fun g i x d hx hd => (g_tup (gs_cons (g_name 3 (gs_cons (g_name 4 (gs_cons (g_name 5 (gs_one (g_name 6 ?_)))))))) ), fun d hd => ?_⟩
  · obtain ⟨a, b, f, z⟩ := x
    dsimp only
    refine s_ifP (x := hrM l t (a, b, f, z)) (dt_bool (dp_andP (dt_cmp (d_var 3 (d_ix (d_var (ra := rLeg) (x := l) 1 (d_int (i_tup 0 (o_eqS ⟨rfl, rfl⟩))))))) (fun _ => (dp_andP (dt_cmp (d_var 4 (d_ix (d_var (ra := rLeg) (x := l) 1 (d_int (i_tup 1 (o_eqS ⟨rfl, rfl⟩))))))) (fun _ => (dp_and1 (dt_chainP (d_var 5 (d_var 2 (o_le ⟨rfl, rfl, fun _ => (d_var 6 (o_le ⟨rfl, rfl⟩))⟩)))))))))) (fun hb => ?_) (fun hb => ?_)
    · exact s_ret (d_bl (rt_in (hk' (shut_in hx hb).symm)))
    · refine s_out (s_next () (fun j x hj hjx => ?_) ⟨rfl, rfl, rfl, trivial⟩ rfl)
      by_cases e : j = i
      · subst e
        rw [hx] at hjx
        cases hjx
        exact hb
      · exact hd j x (by omega) hjx
  · refine s_ret (d_bl (hk' (shut_no fun j x hjx => hd j x (List.getElem?_eq_some_iff.mp hjx).1 hjx).symm))
abbrev sp_legs_below (C : Addr) (K : Fg) : Sp := spF K [] (fCons (rPath C) (fOne rB4)) (fun x => RtV x.1.1 x.1.2) (rLst rInt) fun x => below (fxOf x.1.1) x.1.2 x.2
abbrev N_legs_below : List Str := ["path", "box"]
theorem sc_legs_below : FnScope N_legs_below ["path", "box"] (defScope s_legs_below) := ⟨rfl, rfl, rfl, by decide +kernel, rfl, by decide +kernel, by decide +kernel⟩
theorem ok_legs_below (N : Nm K mg) (T : Bt mg) : FnOk P w K mg base CX0 2 N.legs_below.f N.legs_below.fd ["path", "box"] (sp_legs_below N.cPath K) := by
  refine fn_m N.legs_below.F sc_legs_below [] fun cdv A outer s G H E x Q fam hp hk => ?_
  obtain ⟨⟨ch, r⟩, b⟩ := x
  have hr : RtV ch r := hp
  have hk' : ∀ {Γ : Gm} {y : List Int}, y = below (fxOf ch) r b → RT K ⟨[], _, G, H, []⟩ Γ [] (rLst rInt) y _ := fun {Γ y} e => hk ⟨rfl, e⟩
  clear hk
  unfold below at hk'
  have h2 := hr.two
  have hlen := hr.len
  have l1 := la_lt (fx := fxOf ch) h2 b.2.1
  have l2 := la_lt (fx := fxOf ch) h2 (mx b.1 0)
  show DS _ K ⟨[], _, G, H, []⟩ [some ⟨rPath N.cPath, (ch, r)⟩, some ⟨rB4, b⟩] [] (defBody s_legs_below) _
  refine s_ifP (dt_cmp (d_ix (d_var (ra := rB4) (x := b) 1 (d_int (i_tup 1 (d_int (o_lt ⟨rfl, rfl⟩))))))) (fun hb => ?_) (fun hb => ?_)
  · refine s_ret (d_lst (ra := rInt) (da_all0 ⟨by walk_at "sc", hk' ?_⟩))
    rw [if_pos (of_decide_eq_true hb)]
  · refine s_out (s_ret (d_listRg2 T.list T.range (d_meth N.kPath N.mPath_leg_at (ok_Path_leg_at N T) (d_var 0 ⟨_, inferInstance, (da_one (d_callB T.max bt_max (da_cons (d_ix (d_var (ra := rB4) (x := b) 1 (d_int (i_tup 0 (da_one (d_int (c_max2 (sw_f hr (d_bin (d_meth N.kPath N.mPath_leg_at (ok_Path_leg_at N T) (d_var 0 ⟨_, inferInstance, (da_one (d_ix (d_var (ra := rB4) (x := b) 1 (d_int (i_tup 1 (sw_f hr (d_int (o_add ⟨?_, hk' ?_⟩))))))))⟩))))))))))))))⟩))))
    · exact RgOk.of_le (Int.natCast_nonneg _) (by dsimp only; omega) (by show ((la (fxOf ch) r (mx b.1 0) : Nat) : Int) ≤ _; omega) (by dsimp only; omega)
    · rw [if_neg (of_decide_eq_false hb)]
abbrev sp_check_levels (C E : Addr) (K : Fg) : Sp := sp0X K [] (fCons (rPath C) (fCons rInt (fOne rB4))) (fun x => RtV x.1.1 x.1.2 ∧ Bd 100 x.2.1) rNon (fun x _ => LvOk (fxOf x.1.1) (lgOf x.1.1) x.1.2 x.2.2) fun x C fl => C = E ∧ fl = CeF "level" x.2.1 ∧ ¬ LvOk (fxOf x.1.1) (lgOf x.1.1) x.1.2 x.2.2
abbrev N_check_levels : List Str := ["path", "tick", "box", "index", "_", "lowest", "highest"]
theorem sc_check_levels : FnScope N_check_levels ["path", "tick", "box"] (defScope s_check_levels) := ⟨rfl, rfl, rfl, by decide +kernel, rfl, by decide +kernel, by decide +kernel⟩
theorem ok_check_levels (N : Nm K mg) (T : Bt mg) (hP : P.main = pM) : FnOk P w K mg base (L2.CX P w) 3 N.check_levels.f N.check_levels.fd ["path", "tick", "box"] (sp_check_levels N.cPath N.cCourseError K) := by
  refine fn_x N.check_levels.F sc_check_levels [] fun cdv A outer s G H E x Q fam hp tk hpo hk hkx => ?_
  obtain ⟨⟨ch, r⟩, t, b⟩ := x
  obtain ⟨hr, ht⟩ := hp
  dsimp only at hr ht
  have hk' : ∀ {Γ : Gm}, LvOk (fxOf ch) (lgOf ch) r b → RT K ⟨[], _, G, H, []⟩ Γ [] rNon () _ := fun {Γ} e => hk ⟨rfl, e⟩
  have hx' : ∀ {Γ : Gm}, ¬ LvOk (fxOf ch) (lgOf ch) r b → XT K ⟨[], _, G, H, []⟩ Γ [] N.cCourseError (CeF "level" t) _ := fun {Γ} e => hkx ⟨rfl, rfl, rfl, e⟩
  clear hk hkx
  have h2 := hr.two
  show DS _ K ⟨[], _, G, H, []⟩ [some ⟨rPath N.cPath, (ch, r)⟩, some ⟨rInt, t⟩, some ⟨rB4, b⟩, none, none, none, none] [] (defBody s_check_levels) _
  refine s_for (js := [3]) (w_lst (ra := rInt) (d_call N.legs_below (ok_legs_below N T) (da_cons (d_var 0 (da_one (d_var 2 (sw_f hr ?_)))))))
  refine ⟨Unit, fun i _ => ∀ j, j < i → (lgAt (lgOf ch) r (la (fxOf ch) r (mx b.1 0) + j)).2.2.2.1 ≤ b.2.2.1 ∧ b.2.2.2 ≤ (lgAt (lgOf ch) r (la (fxOf ch) r (mx b.1 0) + j)).2.2.2.2, fun _ => [some ⟨rPath N.cPath, (ch, r)⟩, some ⟨rInt, t⟩, some ⟨rB4, b⟩, none, none, none, none], fun _ => [], ⟨(), fun j h => absurd h (Nat.not_lt_zero _), ⟨rfl, rfl, rfl, trivial⟩, rfl⟩, fun g i x d hx hd => (g_name 3 ?_), fun d hd => ?_⟩
  · obtain ⟨k, ex, hk0, ei⟩ := below_get hx
    subst ex
    have hk0 : OnB (fxOf ch) r b k := hk0
    have ei : k = la (fxOf ch) r (mx b.1 0) + i := ei
    have l1 := la_lt (fx := fxOf ch) h2 b.2.1
    have hk1 := hk0.2.2
    refine s_asg (js := [4, 4, 4, 5, 6]) (ra := rLeg) (d_meth N.kPath N.mPath_leg (ok_Path_leg N T) (d_var 0 ⟨_, inferInstance, (da_one (d_var 3 (sw_f ⟨hr, Int.natCast_nonneg _, by dsimp only; rw [Int.toNat_natCast]; omega⟩ (g_tup (gs_cons (g_name 4 (gs_cons (g_name 4 (gs_cons (g_name 4 (gs_cons (g_name 5 (gs_one (g_name 6 ?_))))))))))))))⟩))
    dsimp only
    rw [Int.toNat_natCast]
    refine s_ifP (dt_bool (dp_orP (dt_cmp (d_ix (d_var (ra := rB4) (x := b) 2 (d_int (i_tup 2 (d_var 5 (o_lt ⟨rfl, rfl⟩))))))) (fun hb => (dp_or1 (dt_cmp (d_ix (d_var (ra := rB4) (x := b) 2 (d_int (i_tup 3 (d_var 6 (o_gt ⟨rfl, rfl⟩))))))))))) (fun hb => ?_) (fun hb => ?_)
    · refine s_raise tk N.xCourseError (ini_CourseError N hP) (da_cons (d_str (da_one (d_var 1 ⟨⟨rfl, by decide⟩, ce_msg (c := "level") (by decide +kernel) ht (by decide), xt_in (hx' fun h => ?_)⟩))))
      have := h k hk0
      simp only [Bool.or_eq_true, decide_eq_true_eq] at hb
      omega
    · refine s_out (s_next () (fun j hj => ?_) ⟨rfl, rfl, rfl, trivial⟩ rfl)
      by_cases e : j = i
      · subst e
        rw [← ei]
        simp only [Bool.or_eq_false_iff, decide_eq_false_iff_not] at hb
        omega
      · exact hd j (by omega)
  · refine s_fall (hk' fun k hk0 => ?_)
    obtain ⟨i, hi, e⟩ := below_of hk0
    rw [e]
    exact hd i hi
abbrev sp_check_hours (C E : Addr) (K : Fg) : Sp := sp0X K [] (fCons rChart (fCons (rPath C) (fCons rInt (fOne rB4)))) (fun x => (RtV x.2.1.1 x.2.1.2 ∧ (hrOf x.1).length ≤ 1000) ∧ Bd 100 x.2.2.1) rNon (fun x _ => HrOk (fxOf x.2.1.1) (lgOf x.2.1.1) x.2.1.2 (hrOf x.1) x.2.2.1 x.2.2.2) fun x C fl => C = E ∧ fl = CeF "shut" x.2.2.1 ∧ ¬ HrOk (fxOf x.2.1.1) (lgOf x.2.1.1) x.2.1.2 (hrOf x.1) x.2.2.1 x.2.2.2
abbrev N_check_hours : List Str := ["chart", "path", "tick", "box", "index"]
theorem sc_check_hours : FnScope N_check_hours ["chart", "path", "tick", "box"] (defScope s_check_hours) := ⟨rfl, rfl, rfl, by decide +kernel, rfl, by decide +kernel, by decide +kernel⟩
theorem ok_check_hours (N : Nm K mg) (T : Bt mg) (hP : P.main = pM) : FnOk P w K mg base (L2.CX P w) 3 N.check_hours.f N.check_hours.fd ["chart", "path", "tick", "box"] (sp_check_hours N.cPath N.cCourseError K) := by
  refine fn_x N.check_hours.F sc_check_hours [] fun cdv A outer s G H E x Q fam hp tk hpo hk hkx => ?_
  obtain ⟨c0, ⟨ch, r⟩, t, b⟩ := x
  obtain ⟨⟨hr, hl⟩, ht⟩ := hp
  dsimp only at hr hl ht
  have hk' : ∀ {Γ : Gm}, HrOk (fxOf ch) (lgOf ch) r (hrOf c0) t b → RT K ⟨[], _, G, H, []⟩ Γ [] rNon () _ := fun {Γ} e => hk ⟨rfl, e⟩
  have hx' : ∀ {Γ : Gm}, ¬ HrOk (fxOf ch) (lgOf ch) r (hrOf c0) t b → XT K ⟨[], _, G, H, []⟩ Γ [] N.cCourseError (CeF "shut" t) _ := fun {Γ} e => hkx ⟨rfl, rfl, rfl, e⟩
  clear hk hkx
  have h2 := hr.two
  show DS _ K ⟨[], _, G, H, []⟩ [some ⟨rChart, c0⟩, some ⟨rPath N.cPath, (ch, r)⟩, some ⟨rInt, t⟩, some ⟨rB4, b⟩, none] [] (defBody s_check_hours) _
  refine s_for (js := [4]) (w_lst (ra := rInt) (d_call N.legs_below (ok_legs_below N T) (da_cons (d_var 1 (da_one (d_var 3 (sw_f hr ?_)))))))
  refine ⟨Unit, fun i _ => ∀ j, j < i → shutK (hrOf c0) (lgAt (lgOf ch) r (la (fxOf ch) r (mx b.1 0) + j)) t = false, fun _ => [some ⟨rChart, c0⟩, some ⟨rPath N.cPath, (ch, r)⟩, some ⟨rInt, t⟩, some ⟨rB4, b⟩, none], fun _ => [], ⟨(), fun j h => absurd h (Nat.not_lt_zero _), ⟨rfl, rfl, rfl, rfl, trivial⟩, rfl⟩, fun g i x d hx hd => (g_name 4 ?_), fun d hd => ?_⟩
  · obtain ⟨k, ex, hk0, ei⟩ := below_get hx
    subst ex
    have hk0 : OnB (fxOf ch) r b k := hk0
    have ei : k = la (fxOf ch) r (mx b.1 0) + i := ei
    have l1 := la_lt (fx := fxOf ch) h2 b.2.1
    have hk1 := hk0.2.2
    refine s_ifP (x := shutK (hrOf c0) (lgAt (lgOf ch) r k) t) (dt_val (d_call N.is_shut (ok_is_shut N T) (da_cons (d_var 0 (da_cons (d_meth N.kPath N.mPath_leg (ok_Path_leg N T) (d_var 1 ⟨_, inferInstance, (da_one (d_var 4 (sw_f ⟨hr, Int.natCast_nonneg _, by dsimp only; rw [Int.toNat_natCast]; omega⟩ (da_one (d_var 2 (sw_f hl ⟨by dsimp only; rw [Int.toNat_natCast], rfl⟩))))))⟩))))))) (fun hb => ?_) (fun hb => ?_)
    · refine s_raise tk N.xCourseError (ini_CourseError N hP) (da_cons (d_str (da_one (d_var 2 ⟨⟨rfl, by decide⟩, ce_msg (c := "shut") (by decide +kernel) ht (by decide), xt_in (hx' fun h => ?_)⟩))))
      have := h k hk0
      rw [hb] at this
      cases this
    · refine s_out (s_next () (fun j hj => ?_) ⟨rfl, rfl, rfl, rfl, trivial⟩ rfl)
      by_cases e : j = i
      · subst e
        rw [← ei]
        exact hb
      · exact hd j (by omega)
  · refine s_fall (hk' fun k hk0 => ?_)
    obtain ⟨i, hi, e⟩ := below_of hk0
    rw [e]
    exact hd i hi
abbrev HwA := PR × CrV × RuV × List W4 × Int × B4
abbrev nbH (x : HwA) : NbIn := ⟨fxOf x.1.1, lgOf x.1.1, x.1.2, x.2.1.2.1, x.2.1.2.2, (0, 0, 0, 0, 0), slipOf x.2.2.1, windAt x.2.2.2.1 x.2.2.2.2.1⟩
structure HwIn (x : HwA) : Prop where
  rt : RtV x.1.1 x.1.2
  st : Strict (fxOf x.1.1) x.1.2
  wd : WdOk x.2.2.2.1
  tb : Bd 100 x.2.2.2.2.1
  bx : x.2.2.2.2.2.1 ≤ x.2.2.2.2.2.2.1
abbrev sp_check_headway (C E : Addr) (K : Fg) : Sp := sp0X K [] (fCons (rPath C) (fCons rCrs (fCons rRules (fCons (rLst rWnd) (fCons rInt (fOne rB4)))))) HwIn rNon (fun x _ => HwOk (nbH x) x.2.2.2.2.2) fun x C fl => C = E ∧ fl = CeF "slow" x.2.2.2.2.1 ∧ ¬ HwOk (nbH x) x.2.2.2.2.2
abbrev N_check_headway : List Str := ["path", "course", "rules", "winds", "tick", "box", "wind", "index"]
theorem sc_check_headway : FnScope N_check_headway ["path", "course", "rules", "winds", "tick", "box"] (defScope s_check_headway) := ⟨rfl, rfl, rfl, by decide +kernel, rfl, by decide +kernel, by decide +kernel⟩
theorem ok_check_headway (N : Nm K mg) (T : Bt mg) (hP : P.main = pM) : FnOk P w K mg base (L2.CX P w) 3 N.check_headway.f N.check_headway.fd ["path", "course", "rules", "winds", "tick", "box"] (sp_check_headway N.cPath N.cCourseError K) := by
  refine fn_x N.check_headway.F sc_check_headway [] fun cdv A outer s G H E x Q fam hp tk hpo hk hkx => ?_
  obtain ⟨⟨ch, r⟩, ⟨cr, sd, lv⟩, ru, ws, t, b⟩ := x
  obtain ⟨hr, hst, hws, ht, hbx⟩ := hp
  dsimp only at hr hst hws ht hbx
  have hk' : ∀ {Γ : Gm}, HwOk ⟨fxOf ch, lgOf ch, r, sd, lv, (0, 0, 0, 0, 0), slipOf ru, windAt ws t⟩ b → RT K ⟨[], _, G, H, []⟩ Γ [] rNon () _ := fun {Γ} e => hk ⟨rfl, e⟩
  have hx' : ∀ {Γ : Gm}, ¬ HwOk ⟨fxOf ch, lgOf ch, r, sd, lv, (0, 0, 0, 0, 0), slipOf ru, windAt ws t⟩ b → XT K ⟨[], _, G, H, []⟩ Γ [] N.cCourseError (CeF "slow" t) _ := fun {Γ} e => hkx ⟨rfl, rfl, rfl, e⟩
  clear hk hkx
  have h2 := hr.two
  have hlen := hr.len
  have hwn := hws.ok t
  have w0 : 0 < ws.length := by
    obtain ⟨w', q, _⟩ := hws.first
    exact (List.getElem?_eq_some_iff.mp q).1
  have l1 := la_lt (fx := fxOf ch) h2 b.1
  have l2 := la_lt (fx := fxOf ch) h2 b.2.1
  show DS _ K ⟨[], _, G, H, []⟩ [some ⟨rPath N.cPath, (ch, r)⟩, some ⟨rCrs, (cr, sd, lv)⟩, some ⟨rRules, ru⟩, some ⟨(rLst rWnd), ws⟩, some ⟨rInt, t⟩, some ⟨rB4, b⟩, none, none] [] (defBody s_check_headway) _
  refine s_set 6 (d_call N.wind_at (ok_wind_at N T) (da_cons (d_var 3 (da_one (d_var 4 (sw_f w0 ?_))))))
  refine s_for (js := [7]) (w_rng2 T.range (d_meth N.kPath N.mPath_leg_at (ok_Path_leg_at N T) (d_var 0 ⟨_, inferInstance, (da_one (d_ix (d_var (ra := rB4) (x := b) 5 (d_int (i_tup 0 (sw_f hr (d_bin (d_meth N.kPath N.mPath_leg_at (ok_Path_leg_at N T) (d_var 0 ⟨_, inferInstance, (da_one (d_ix (d_var (ra := rB4) (x := b) 5 (d_int (i_tup 1 (sw_f hr (d_int (o_add ⟨?_, ?_⟩))))))))⟩)))))))))⟩)))
  · dsimp only
    omega
  dsimp only
  refine ⟨Unit, fun i _ => ∀ j, j < i → 1 ≤ (bnd (fxOf ch) r sd (slipOf ru) (windAt ws t) (la (fxOf ch) r b.1 + j)).1, fun _ => [some ⟨rPath N.cPath, (ch, r)⟩, some ⟨rCrs, (cr, sd, lv)⟩, some ⟨rRules, ru⟩, some ⟨(rLst rWnd), ws⟩, some ⟨rInt, t⟩, some ⟨rB4, b⟩, some ⟨rWnd, windAt ws t⟩, none], fun _ => [], ⟨(), fun j h => absurd h (Nat.not_lt_zero _), ⟨rfl, rfl, rfl, rfl, rfl, rfl, rfl, trivial⟩, rfl⟩, fun g i x d hx hd => (g_name 7 ?_), fun d hd => ?_⟩
  · obtain ⟨hlt, ex⟩ := rgI_item hx
    have ex : x = ((la (fxOf ch) r b.1 + i : Nat) : Int) := by omega
    subst ex
    have hi2 : la (fxOf ch) r b.1 + i ≤ la (fxOf ch) r b.2.1 := by omega
    refine s_ifP (dt_cmp (d_ix (d_call N.bounds_on (ok_bounds_on N T) (da_cons (d_var 0 (da_cons (d_var 7 (da_cons (d_var 1 (da_cons (d_var 2 (da_one (d_var 6 (sw_f ⟨hr, hst, Int.natCast_nonneg _, by dsimp only; rw [Int.toNat_natCast]; omega, hwn⟩ (d_int (i_tup 0 (d_int (o_lt ⟨rfl, rfl⟩)))))))))))))))))) (fun hb => ?_) (fun hb => ?_)
    · refine s_raise tk N.xCourseError (ini_CourseError N hP) (da_cons (d_str (da_one (d_var 4 ⟨⟨rfl, by decide⟩, ce_msg (c := "slow") (by decide +kernel) ht (by decide), xt_in (hx' fun h => ?_)⟩))))
      have h1 : 1 ≤ (bnd (fxOf ch) r sd (slipOf ru) (windAt ws t) (la (fxOf ch) r b.1 + i)).1 := h (la (fxOf ch) r b.1 + i) (Nat.le_add_right _ _) hi2
      have hb : (bnd (fxOf ch) r sd (slipOf ru) (windAt ws t) ((la (fxOf ch) r b.1 + i : Nat) : Int).toNat).1 < 1 := of_decide_eq_true hb
      rw [Int.toNat_natCast] at hb
      omega
    · refine s_out (s_next () (fun j hj => ?_) ⟨rfl, rfl, rfl, rfl, rfl, rfl, rfl, trivial⟩ rfl)
      by_cases e : j = i
      · subst e
        have hb : ¬ (bnd (fxOf ch) r sd (slipOf ru) (windAt ws t) ((la (fxOf ch) r b.1 + j : Nat) : Int).toNat).1 < 1 := of_decide_eq_false hb
        rw [Int.toNat_natCast] at hb
        omega
      · exact hd j (by omega)
  · rw [rgI_len] at hd
    refine s_fall (hk' fun k hk1 hk2 => ?_)
    have := hd (k - la (fxOf ch) r b.1) (by dsimp only at hk1 hk2; omega)
    rw [show la (fxOf ch) r b.1 + (k - la (fxOf ch) r b.1) = k by dsimp only at hk1; omega] at this
    exact this
end
end Law
set_option Elab.async false
set_option linter.all false
set_option maxRecDepth 100000
set_option maxHeartbeats 4100000
/-! TuB: tubes (shared by the laws of tubes). -/
namespace Law
open PySem L2 Evl Sk MP M10
local macro_rules | `(tactic| walk_at "sc") => `(tactic| first | omega | assumption | (with_reducible exact mulOk) | (with_reducible exact smOk) | (with_reducible exact ⟨by decide, smOk⟩) | decide | (simp only [List.length_cons, List.length_nil]; decide) | exact divOk (by omega))
section
variable {P : Program} {w : World} {K : PySem.W.Frag} {mg : Str → Option Value} {base : Heap}
abbrev TbA := ChV × PR × CrV × K5 × RuV × List W4 × Int × B4
abbrev tbIn (x : TbA) : TbIn := ⟨fxOf x.2.1.1, lgOf x.2.1.1, x.2.1.2, x.2.2.1.2.1, x.2.2.1.2.2, x.2.2.2.1, slipOf x.2.2.2.2.1, x.2.2.2.2.2.1, hrOf x.1⟩
structure TbOk (x : TbA) : Prop where
  rt : RtV x.2.1.1 x.2.1.2
  st : Strict (fxOf x.2.1.1) x.2.1.2
  hl : (hrOf x.1).length ≤ 1000
  wd : WdOk x.2.2.2.2.2.1
  kd : x.2.2.2.1.2.2.2.1 ≤ x.2.2.2.1.2.2.2.2
  sl : 0 ≤ slipOf x.2.2.2.2.1
  t0 : -100000000 ≤ x.2.2.2.2.2.2.1 ∧ x.2.2.2.2.2.2.1 ≤ 100000000
  bx : BoxOk x.2.2.2.2.2.2.2
theorem slow_le {ch : ChV} {r : List Str} {sd sl : Int} {ws : List W4} (hr : RtV ch r) (hst : Strict (fxOf ch) r) (hsl : 0 ≤ sl) (hws : WdOk ws) (t : Int) (k : Int) : (bnd (fxOf ch) r sd sl (windAt ws t) (la (fxOf ch) r k)).1 ≤ (bnd (fxOf ch) r sd sl (windAt ws t) (la (fxOf ch) r k)).2 :=
  stpB_le (by
    have := bg_lt hst (la_lt hr.two (fx := fxOf ch) k)
    show 0 < bg (fxOf ch) r (la (fxOf ch) r k + 1) - bg (fxOf ch) r (la (fxOf ch) r k)
    omega) hsl (hws.ok t).e.1
abbrev sp_tube (C E : Addr) (K : Fg) : Sp := spNX K [] (fCons rChart (fCons (rPath C) (fCons rCrs (fCons rK5 (fCons rRules (fCons (rLst rWnd) (fCons rInt (fOne rB4)))))))) TbOk (oLst rB4) (fun x bs => TubeOut (tbIn x) x.2.2.2.2.2.2.1 x.2.2.2.2.2.2.2 bs) fun x C fl => C = E ∧ ∃ c t, fl = CeF c t ∧ TubeErr (tbIn x) x.2.2.2.2.2.2.1 x.2.2.2.2.2.2.2 c t
abbrev N_tube : List Str := ["chart", "path", "course", "kind", "rules", "winds", "tick", "box", "boxes", "now"]
theorem sc_tube : FnScope N_tube ["chart", "path", "course", "kind", "rules", "winds", "tick", "box"] (defScope s_tube) := ⟨rfl, rfl, rfl, by decide +kernel, rfl, by decide +kernel, by decide +kernel⟩
theorem ok_tube (N : Nm K mg) (T : Bt mg) (hP : P.main = pM) : FnOk P w K mg base (L2.CX P w) 4 N.tube.f N.tube.fd ["chart", "path", "course", "kind", "rules", "winds", "tick", "box"] (sp_tube N.cPath N.cCourseError K) := by
  refine fn_x N.tube.F sc_tube [] fun cdv A outer s G H E x Q fam hp tk hpo hk hkx => ?_
  obtain ⟨c0, ⟨ch, r⟩, ⟨cr, sd, lv⟩, kd, ru, ws, t, b0⟩ := x
  obtain ⟨hr, hst, hl, hws, hkd, hsl, ht0, hbx⟩ := hp
  dsimp only at hr hst hl hws hkd hsl ht0 hbx
  generalize en : (⟨fxOf ch, lgOf ch, r, sd, lv, kd, slipOf ru, ws, hrOf c0⟩ : TbIn) = n
  have hk' : ∀ {Γ : Gm} {q : Addr} {bs : List B4}, TubeOut n t b0 bs → RT K ⟨[], _, G, H, []⟩ Γ [⟨q, oLst rB4, bs⟩] rAdr q _ := fun {Γ q bs} e => hk ⟨bs, by rw [← en] at e; exact e, rfl⟩
  have hx' : ∀ {Γ : Gm} {O : List Own} {c : Str} {t' : Int}, TubeErr n t b0 c t' → XT K ⟨[], _, G, H, []⟩ Γ O N.cCourseError (CeF c t') _ := fun {Γ O c t'} e => xt_drop (hkx ⟨rfl, rfl, c, t', rfl, by rw [← en] at e; exact e⟩)
  clear hk hkx
  have z1 : 100000 ≤ sizeLine := by decide
  have hno : ∀ t', n.nb t' = ⟨fxOf ch, lgOf ch, r, sd, lv, kd, slipOf ru, windAt ws t'⟩ := fun t' => by rw [← en]; rfl
  have hsp : SpOk n ↔ kd.2.1 ≤ sd ∧ sd ≤ kd.2.2.1 := by rw [← en]; exact Iff.rfl
  have htt : tot n.fx n.r = tot (fxOf ch) r := by rw [← en]
  have hbo : ∀ {bs b}, TubeSt n t b0 bs b → BoxOk b := fun h => (h.box hbx (by rw [← en]; exact fun t' k => slow_le hr hst hsl hws t' k)).1
  show DS _ K ⟨[], _, G, H, []⟩ [some ⟨rChart, c0⟩, some ⟨rPath N.cPath, (ch, r)⟩, some ⟨rCrs, (cr, sd, lv)⟩, some ⟨rK5, kd⟩, some ⟨rRules, ru⟩, some ⟨(rLst rWnd), ws⟩, some ⟨rInt, t⟩, some ⟨rB4, b0⟩, none, none] [] (defBody s_tube) _
  have bt : Bd 100 t := Bd.of (by omega) (by omega)
  refine s_ifP (dt_notP (dt_chainP (d_ix (d_var (ra := rK5) (x := kd) 3 (d_int (i_tup 1 (d_ix (d_var (ra := rCrs) (x := (cr, sd, lv)) 2 (d_int (i_tup 1 (o_le ⟨rfl, rfl, fun hb => (d_ix (d_var (ra := rK5) (x := kd) 3 (d_int (i_tup 2 (o_le ⟨rfl, rfl⟩)))))⟩))))))))))) (fun hb => ?_) (fun hb => ?_)
  · refine s_raise tk N.xCourseError (ini_CourseError N hP) (da_cons (d_str (da_one (d_var 6 ⟨⟨rfl, by decide⟩, ce_msg (c := "speed") (by decide +kernel) bt (by decide), hx' (.inl ⟨rfl, rfl, fun h => ?_⟩)⟩))))
    obtain ⟨h1, h2⟩ := hsp.mp h
    rw [decide_eq_true (show kd.2.1 ≤ sd from h1), decide_eq_true (show sd ≤ kd.2.2.1 from h2)] at hb
    cases hb
  have hspo : SpOk n := by
    have hb : (!(decide (kd.2.1 ≤ sd) && decide (sd ≤ kd.2.2.1))) = false := hb
    simp only [Bool.not_eq_false', Bool.and_eq_true, decide_eq_true_eq] at hb
    exact hsp.mpr hb
  refine s_out ?_
  refine s_set 8 (d_lstO (ra := rB4) (da_all0 ⟨(by walk_at "sc"), fun q8 hq8 => ?_⟩))
  refine s_while (δ := List B4 × B4) (fun d => TubeSt n t b0 d.1 d.2) (fun d => 241 - d.1.length) (fun d => [some ⟨rChart, c0⟩, some ⟨rPath N.cPath, (ch, r)⟩, some ⟨rCrs, (cr, sd, lv)⟩, some ⟨rK5, kd⟩, some ⟨rRules, ru⟩, some ⟨(rLst rWnd), ws⟩, some ⟨rInt, t⟩, some ⟨rB4, d.2⟩, some ⟨rAdr, q8⟩, none]) (fun d => [⟨q8, oLst rB4, d.1⟩]) ([], b0) .nil ⟨rfl, rfl, rfl, rfl, rfl, rfl, rfl, rfl, rfl, trivial⟩ rfl fun d hd => ?_
  obtain ⟨bs, b⟩ := d
  have hd : TubeSt n t b0 bs b := hd
  have hlen := hd.len
  have hb4 := hbo hd
  dsimp only
  refine dt_then (x := decide (b.1 < tot (fxOf ch) r)) (dt_cmp (d_ix (d_var (ra := rB4) (x := b) 7 (d_int (i_tup 0 (d_meth0 N.kPath N.mPath_total (ok_Path_total N T) (d_var 1 ⟨_, inferInstance, (sw_f hr (o_lt ⟨rfl, rfl⟩))⟩))))))) ⟨fun hb => ?_, fun hb => ?_⟩
  · have hlt : b.1 < tot n.fx n.r := by rw [htt]; exact of_decide_eq_true hb
    refine s_set 9 (d_bin (d_var 6 (d_callB T.len bt_len (da_one (d_var 8 (c_lenG (o_add ?_)))))))
    have bn : Bd 100 (t + (bs.length : Int)) := Bd.of (by omega) (by omega)
    obtain ⟨tl, hLT⟩ := T.LONGEST_TUBE
    refine s_ifP (x := decide ((bs.length : Int) = 240)) (dt_cmp (d_callB T.len bt_len (da_one (d_var 8 (c_lenG (d_globI hLT (o_eqI ⟨rfl, rfl⟩))))))) (fun hb => ?_) (fun hb => ?_)
    · have hb := of_decide_eq_true hb
      exact s_raise tk N.xCourseError (ini_CourseError N hP) (da_cons (d_str (da_one (d_var 9 ⟨⟨rfl, by decide⟩, ce_msg (c := "long") (by decide +kernel) bn (by decide), hx' (.inr ⟨hspo, bs, b, hd, hlt, rfl, .inl ⟨by omega, rfl⟩⟩)⟩))))
    have hb := of_decide_eq_false hb
    have hl2 : bs.length < 240 := by omega
    refine s_out ?_
    refine s_expr (d_callX (fun _ => tk) N.check_levels (ok_check_levels N T hP) (da_cons (d_var 1 (da_cons (d_var 9 (da_one (d_var 7 (sw_0X ⟨hr, bn⟩ (fun y hlv => ?_) (fun C fl ⟨e1, e2, e3⟩ => ?_)))))))))
    rotate_left
    · subst e1 e2
      exact hx' (.inr ⟨hspo, bs, b, hd, hlt, rfl, .inr ⟨hl2, .inl ⟨rfl, by rw [← en]; exact e3⟩⟩⟩)
    have hlv : LvOk n.fx n.legs n.r b := by rw [← en]; exact hlv
    refine s_expr (d_callX (fun _ => tk) N.check_hours (ok_check_hours N T hP) (da_cons (d_var 0 (da_cons (d_var 1 (da_cons (d_var 9 (da_one (d_var 7 (sw_0X ⟨⟨hr, hl⟩, bn⟩ (fun y hho => ?_) (fun C fl ⟨e1, e2, e3⟩ => ?_)))))))))))
    rotate_left
    · subst e1 e2
      exact hx' (.inr ⟨hspo, bs, b, hd, hlt, rfl, .inr ⟨hl2, .inr (.inl ⟨rfl, hlv, by rw [← en]; exact e3⟩)⟩⟩)
    have hho : HrOk n.fx n.legs n.r n.hs (t + bs.length) b := by rw [← en]; exact hho
    refine s_expr (d_callX (fun _ => tk) N.check_headway (ok_check_headway N T hP) (da_cons (d_var 1 (da_cons (d_var 2 (da_cons (d_var 4 (da_cons (d_var 5 (da_cons (d_var 9 (da_one (d_var 7 (sw_0X ⟨hr, hst, hws, bn, hb4.p⟩ (fun y hhw => ?_) (fun C fl ⟨e1, e2, e3⟩ => ?_)))))))))))))))
    rotate_left
    · subst e1 e2
      exact hx' (.inr ⟨hspo, bs, b, hd, hlt, rfl, .inr ⟨hl2, .inr (.inr ⟨rfl, hlv, hho, by rw [hno]; exact e3⟩)⟩⟩)
    have hhw : HwOk (n.nb (t + bs.length)) b := by rw [hno]; exact hhw
    refine s_expr (d_app (ra := rB4) (d_var 8 ⟨_, _, inferInstance, (d_var 7 ⟨_, _, inferInstance, (by omega), ?_⟩)⟩))
    refine s_set 7 (d_call N.next_box (ok_next_box N T) (da_cons (d_var 1 (da_cons (d_var 2 (da_cons (d_var 3 (da_cons (d_var 4 (da_cons (d_var 5 (da_cons (d_var 9 (da_one (d_var 7 (sw_0 ⟨hr, hst, hws, hkd, hb4⟩ (fun z hz => ?_)))))))))))))))))
    have hz : NbOk (n.nb (t + bs.length)) b z := by rw [hno]; exact hz
    exact s_next (bs ++ [b], z) ⟨hd.snoc hlt hl2 ⟨hlv, hho, hhw⟩ hz, by dsimp only; rw [List.length_append, List.length_singleton]; omega⟩ ⟨rfl, rfl, rfl, rfl, rfl, rfl, rfl, rfl, rfl, trivial⟩ rfl
  · have hge : tot n.fx n.r ≤ b.1 := by
      have := of_decide_eq_false hb
      rw [htt]
      omega
    exact s_ret (d_var 8 (hk' ⟨hspo, b, hd, hge⟩))
end
end Law
set_option Elab.async false
set_option linter.all false
set_option maxRecDepth 100000
set_option maxHeartbeats 4100000
/-! TuW: windows (shared by the laws of tubes). -/
namespace Law
open PySem L2 Evl Sk MP M10
local macro_rules | `(tactic| walk_at "sc") => `(tactic| first | omega | assumption | (with_reducible exact mulOk) | (with_reducible exact smOk) | (with_reducible exact ⟨by decide, smOk⟩) | decide | (simp only [List.length_cons, List.length_nil]; decide) | exact divOk (by omega))
section
variable {P : Program} {w : World} {K : PySem.W.Frag} {mg : Str → Option Value} {base : Heap}
abbrev N_window : List Str := ["path", "tick", "boxes", "latest", "index", "box"]
theorem sc_window : FnScope N_window ["path", "tick", "boxes"] (defScope s_window) := ⟨rfl, rfl, rfl, by decide +kernel, rfl, by decide +kernel, by decide +kernel⟩
end
end Law
set_option Elab.async false
set_option linter.all false
set_option maxRecDepth 100000
set_option maxHeartbeats 4100000
/-! TwH: hours; what is flown by the law (k14). -/
namespace Law
open PySem L2 Evl Sk MP M10
local macro_rules | `(tactic| walk_at "sc") => `(tactic| first | omega | assumption | (with_reducible exact mulOk) | (with_reducible exact smOk) | (with_reducible exact ⟨by decide, smOk⟩) | decide | (simp only [List.length_cons, List.length_nil]; decide) | exact divOk (by omega))
section
variable {P : Program} {w : World} {K : PySem.W.Frag} {mg : Str → Option Value} {base : Heap}
/-- hours of legs of the chart -/
def HrsOk (hs : List Hr) : Prop := ∀ h ∈ hs, PyData.strOk h.1 = true ∧ PyData.strOk h.2.1 = true
theorem HrsOk.snoc {hs : List Hr} {h : Hr} (z : HrsOk hs) (h1 : PyData.strOk h.1 = true) (h2 : PyData.strOk h.2.1 = true) : HrsOk (hs ++ [h]) := fun t ht => by
  rcases List.mem_append.mp ht with y | y
  · exact z t y
  · rw [List.mem_singleton.mp y]
    exact ⟨h1, h2⟩
end
end Law
set_option Elab.async false
set_option linter.all false
set_option maxRecDepth 100000
set_option maxHeartbeats 4100000
/-! TnA: the next box by the law, leg by leg (k13). -/
namespace Law
open PySem L2 Evl Sk MP M10
local macro_rules | `(tactic| walk_at "sc") => `(tactic| first | omega | assumption | (with_reducible exact mulOk) | (with_reducible exact smOk) | (with_reducible exact ⟨by decide, smOk⟩) | decide | (simp only [List.length_cons, List.length_nil]; decide) | exact divOk (by omega))
theorem nlv_min {k : K5} {g dn up m : Int} (hk : k.2.2.2.1 ≤ k.2.2.2.2) (h1 : m ∈ [tow dn g k.2.2.2.1, tow dn g k.2.2.2.2]) (h2 : ∀ y ∈ [tow dn g k.2.2.2.1, tow dn g k.2.2.2.2], m ≤ y) : m = (nlv k g dn up).1 := by
  have a : (nlv k g dn up).1 ∈ [tow dn g k.2.2.2.1, tow dn g k.2.2.2.2] := by
    unfold nlv
    dsimp only
    by_cases z : dn < g
    · rw [if_pos z]
      exact List.mem_cons_self ..
    · rw [if_neg z]
      exact List.mem_cons_of_mem _ (List.mem_singleton_self _)
  refine Int.le_antisymm (h2 _ a) ?_
  rcases List.mem_cons.mp h1 with z | z
  · rw [z]
    exact tow_dn hk (Int.le_refl _) (.inl rfl)
  · rw [List.mem_singleton.mp z]
    exact tow_dn hk (Int.le_refl _) (.inr rfl)
theorem nlv_max {k : K5} {g dn up m : Int} (hk : k.2.2.2.1 ≤ k.2.2.2.2) (h1 : m ∈ [tow up g k.2.2.2.1, tow up g k.2.2.2.2]) (h2 : ∀ y ∈ [tow up g k.2.2.2.1, tow up g k.2.2.2.2], y ≤ m) : m = (nlv k g dn up).2 := by
  have a : (nlv k g dn up).2 ∈ [tow up g k.2.2.2.1, tow up g k.2.2.2.2] := by
    unfold nlv
    dsimp only
    by_cases z : up < g
    · rw [if_pos z]
      exact List.mem_cons_of_mem _ (List.mem_singleton_self _)
    · rw [if_neg z]
      exact List.mem_cons_self ..
  refine Int.le_antisymm ?_ (h2 _ a)
  rcases List.mem_cons.mp h1 with z | z
  · rw [z]
    exact tow_up hk (Int.le_refl _) (.inl rfl)
  · rw [List.mem_singleton.mp z]
    exact tow_up hk (Int.le_refl _) (.inr rfl)
section
variable {P : Program} {w : World} {K : PySem.W.Frag} {mg : Str → Option Value} {base : Heap}
abbrev LnA := ChV × List Str × List Int × CrV × K5 × RuV × List W4 × Int × B4
abbrev lnIn (x : LnA) : NbIn := ⟨fxOf x.1, lgOf x.1, x.2.1, x.2.2.2.1.2.1, x.2.2.2.1.2.2, x.2.2.2.2.1, slipOf x.2.2.2.2.2.1, windAt x.2.2.2.2.2.2.1 x.2.2.2.2.2.2.2.1⟩
structure LnOk (x : LnA) : Prop where
  ch : ChOk x.1
  rt : RtV x.1 x.2.1
  bs : x.2.2.1 = begins (fxOf x.1) x.2.1
  wd : WdOk x.2.2.2.2.2.2.1
  kd : x.2.2.2.2.1.2.2.2.1 ≤ x.2.2.2.2.1.2.2.2.2
  t0 : 0 ≤ x.2.2.2.2.2.2.2.1
  bx : BoxOk x.2.2.2.2.2.2.2.2
abbrev sp_law_next (K : Fg) : Sp := sp0 K [] (fCons rChart (fCons (rTpv rStr) (fCons (rLst rInt) (fCons rCrs (fCons rK5 (fCons rRules (fCons (rLst rWnd) (fCons rInt (fOne rB4))))))))) LnOk rB4 fun x y => NbOk (lnIn x) x.2.2.2.2.2.2.2.2 y
abbrev N_law_next : List Str := ["_law_chart_here", "_law_route", "_law_begins_here", "_law_course", "_law_kind_here", "_law_rules_here", "_law_winds_here", "_law_tick", "_law_box", "_law_wind", "_law_ends", "_law_k", "_law_bounds_here", "_law_low", "_law_high", "_law_goal", "_law_down", "_law_up", "_law_end"]
theorem sc_law_next : FnScope N_law_next ["_law_chart_here", "_law_route", "_law_begins_here", "_law_course", "_law_kind_here", "_law_rules_here", "_law_winds_here", "_law_tick", "_law_box"] (defScope s_law_next) := ⟨rfl, rfl, rfl, by decide +kernel, rfl, by decide +kernel, by decide +kernel⟩
theorem ok_law_next (N : Nm K mg) (T : Bt mg) : FnOk P w K mg base CX0 3 N.law_next.f N.law_next.fd ["_law_chart_here", "_law_route", "_law_begins_here", "_law_course", "_law_kind_here", "_law_rules_here", "_law_winds_here", "_law_tick", "_law_box"] (sp_law_next K) := by
  refine fn_m N.law_next.F sc_law_next [] fun cdv A outer s G H E x Q fam hp hk => ?_
  obtain ⟨ch, r, bs, ⟨cr, sd, lv⟩, kd, ru, ws, t, b⟩ := x
  obtain ⟨hc, hr, hbs, hw, hkd, t0, hb⟩ := hp
  dsimp only at hc hr hbs hw hkd t0 hb
  subst hbs
  have hk' : ∀ {Γ : Gm} {O : List Own} {y : B4}, NbOk ⟨fxOf ch, lgOf ch, r, sd, lv, kd, slipOf ru, windAt ws t⟩ b y → RT K ⟨[], _, G, H, []⟩ Γ O rB4 y _ := fun {Γ O y} e => rt_drop (hk ⟨rfl, e⟩)
  clear hk
  have z1 : 100000 ≤ sizeLine := by decide
  have hs := hr.strict hc
  have h2 := hr.two
  have hlen : r.length ≤ 1000 := hr.len
  have hb2 : 2 ≤ (begins (fxOf ch) r).length := by rw [begins_len]; exact h2
  have hb3 : (begins (fxOf ch) r).length ≤ 1000 := by rw [begins_len]; exact hlen
  have hla : ∀ p, laL ((List.range r.length).map (bg (fxOf ch) r)) p = la (fxOf ch) r p := fun p => laL_eq (fx := fxOf ch) h2 p
  have hla2 : ∀ p, laL (begins (fxOf ch) r) p = la (fxOf ch) r p := hla
  have hwn := hw.ok t
  obtain ⟨w0, hw0, hw1⟩ := hw.first
  have A1 := (la_ok (fxOf ch) h2 b.1).lt
  have A2 := (la_ok (fxOf ch) h2 b.2.1).lt
  have A3 := la_mono (fxOf ch) h2 hb.p
  show DS _ K ⟨[], _, G, H, []⟩ [some ⟨rChart, ch⟩, some ⟨(rTpv rStr), r⟩, some ⟨(rLst rInt), begins (fxOf ch) r⟩, some ⟨rCrs, (cr, sd, lv)⟩, some ⟨rK5, kd⟩, some ⟨rRules, ru⟩, some ⟨(rLst rWnd), ws⟩, some ⟨rInt, t⟩, some ⟨rB4, b⟩, none, none, none, none, none, none, none, none, none, none] [] (defBody s_law_next) _
  refine s_set 9 (d_call N.law_wind_at (ok_law_wind_at N T) (da_cons (d_var 6 (da_one (d_var 7 (sw_f ⟨⟨w0, hw0, by dsimp only; omega⟩, hw.len⟩ ?_))))))
  refine s_set 10 (d_lstO (ra := rB4) (da_all0 ⟨(by walk_at "sc"), fun q10 hq10 => ?_⟩))
  refine s_for (js := [11]) (w_rng2 T.range (d_call N.leg_at (ok_leg_at N T) (da_cons (d_var 2 (da_one (d_ix (d_var (ra := rB4) (x := b) 8 (d_int (i_tup 0 (sw_f ⟨hb2, hb3⟩ (d_bin (d_call N.leg_at (ok_leg_at N T) (da_cons (d_var 2 (da_one (d_ix (d_var (ra := rB4) (x := b) 8 (d_int (i_tup 1 (sw_f ⟨hb2, hb3⟩ (d_int (o_add ⟨?_, ?_⟩))))))))))))))))))))))
  · dsimp only
    rw [hla, hla]
    omega
  dsimp only
  rw [hla, hla]
  generalize ef : la (fxOf ch) r b.1 = f at *
  generalize el : la (fxOf ch) r b.2.1 = l at *
  have hcnt : ((l : Int) + 1 - (f : Int)).toNat = l + 1 - f := by omega
  rw [hcnt]
  refine ⟨Nat, fun i d => d = i ∧ i ≤ l + 1 - f, fun _ => [some ⟨rChart, ch⟩, some ⟨(rTpv rStr), r⟩, some ⟨(rLst rInt), begins (fxOf ch) r⟩, some ⟨rCrs, (cr, sd, lv)⟩, some ⟨rK5, kd⟩, some ⟨rRules, ru⟩, some ⟨(rLst rWnd), ws⟩, some ⟨rInt, t⟩, some ⟨rB4, b⟩, some ⟨rWnd, windAt ws t⟩, some ⟨rAdr, q10⟩, none, none, none, none, none, none, none, none],
    fun d => [⟨q10, oLst rB4, (List.range d).map fun j => nbRow ⟨fxOf ch, lgOf ch, r, sd, lv, kd, slipOf ru, windAt ws t⟩ b (f + j)⟩], ⟨0, ⟨rfl, Nat.zero_le _⟩, ⟨rfl, rfl, rfl, rfl, rfl, rfl, rfl, rfl, rfl, rfl, rfl, trivial⟩, rfl⟩, fun g i x d hx hd => (g_name 11 ?_), fun d hd => ?_⟩
  · obtain ⟨rfl, _⟩ := hd
    obtain ⟨hlt, ex⟩ := rgI_item hx
    have ex : x = ((f + d : Nat) : Int) := by omega
    subst ex
    have hi1 : f + d + 1 < r.length := by omega
    have g0 := atI_nat' (bg_get (fx := fxOf ch) (show f + d < r.length by omega))
    have g1 : atI (begins (fxOf ch) r) (((f + d : Nat) : Int) + 1) = some (bg (fxOf ch) r (f + d + 1)) := atI_nat' (bg_get (fx := fxOf ch) hi1)
    refine s_set 12 (d_call N.bounds (ok_bounds N T) (da_cons (d_var 0 (da_cons (d_var 1 (da_cons (d_var 2 (da_cons (d_var (ra := rInt) (x := ((f + d : Nat) : Int)) 11 (da_cons (d_ix (d_var (ra := rCrs) (x := (cr, sd, lv)) 3 (d_int (i_tup 1 (da_cons (d_recP 5 4 rfl ruN_nd (da_one (d_var 9 (sw_f ⟨hr, hs, rfl, Int.natCast_nonneg _, by dsimp only; rw [Int.toNat_natCast]; exact hi1, hwn⟩ ?_)))))))))))))))))))
    dsimp only
    rw [Int.toNat_natCast]
    refine s_set 13 (d_abs (fun y => y = stA (fxOf ch) r b (f + d)) (fun y hy => ?_) (d_iteP (dt_cmp (d_var (ra := rInt) (x := ((f + d : Nat) : Int)) 11 (d_call N.leg_at (ok_leg_at N T) (da_cons (d_var 2 (da_one (d_ix (d_var (ra := rB4) (x := b) 8 (d_int (i_tup 0 (sw_f ⟨hb2, hb3⟩ (o_eqI ⟨rfl, rfl⟩)))))))))))) (fun hb => (d_ix (d_var (ra := rB4) (x := b) 8 (d_int (i_tup 0 ⟨?_, rfl⟩))))) (fun hb => (d_ix (d_var (ra := rLst rInt) (x := begins (fxOf ch) r) 2 (d_var (ra := rInt) (x := ((f + d : Nat) : Int)) 11 (i_lst g0 ⟨?_, rfl⟩)))))))
    rotate_left
    · have := of_decide_eq_true hb
      dsimp only at this
      rw [hla] at this
      unfold stA
      rw [if_pos (by rw [ef]; omega)]
    · have := of_decide_eq_false hb
      dsimp only at this
      rw [hla] at this
      unfold stA
      rw [if_neg (by rw [ef]; omega)]
    subst hy
    refine s_set 14 (d_abs (fun y => y = enA (fxOf ch) r b (f + d)) (fun y hy => ?_) (d_iteP (dt_cmp (d_var (ra := rInt) (x := ((f + d : Nat) : Int)) 11 (d_call N.leg_at (ok_leg_at N T) (da_cons (d_var 2 (da_one (d_ix (d_var (ra := rB4) (x := b) 8 (d_int (i_tup 1 (sw_f ⟨hb2, hb3⟩ (o_eqI ⟨rfl, rfl⟩)))))))))))) (fun hb => (d_ix (d_var (ra := rB4) (x := b) 8 (d_int (i_tup 1 ⟨?_, rfl⟩))))) (fun hb => (d_bin (d_ix (d_var (ra := rLst rInt) (x := begins (fxOf ch) r) 2 (d_bin (d_var (ra := rInt) (x := ((f + d : Nat) : Int)) 11 (d_int (o_add (i_lst g1 (d_int (o_sub ⟨?_, rfl⟩)))))))))))))
    rotate_left
    · have := of_decide_eq_true hb
      dsimp only at this
      rw [hla] at this
      unfold enA
      rw [if_pos (by rw [el]; omega)]
    · have := of_decide_eq_false hb
      dsimp only at this
      rw [hla] at this
      unfold enA
      rw [if_neg (by rw [el]; omega)]
    subst hy
    refine s_set 15 (d_call N.law_target (ok_law_target N T) (da_cons (d_var 0 (da_cons (d_var 1 (da_cons (d_var (ra := rInt) (x := ((f + d : Nat) : Int)) 11 (da_one (d_ix (d_var (ra := rCrs) (x := (cr, sd, lv)) 3 (d_int (i_tup 2 (sw_f ⟨hc, hr, Int.natCast_nonneg _, by dsimp only; rw [Int.toNat_natCast]; exact hi1⟩ ?_)))))))))))))
    dsimp only
    rw [Int.toNat_natCast]
    generalize eg : tgt (lgOf ch) r lv (f + d) = go
    refine s_set 16 (d_lst (ra := rInt) (da_all (d_call N.law_towards (ok_law_towards N T) (da_cons (d_ix (d_var (ra := rB4) (x := b) 8 (d_int (i_tup 2 (da_cons (d_var (ra := rInt) (x := go) 15 (da_one (d_ix (d_var (ra := rK5) (x := kd) 4 (d_int (i_tup 3 (sw_f trivial (da_all (d_call N.law_towards (ok_law_towards N T) (da_cons (d_ix (d_var (ra := rB4) (x := b) 8 (d_int (i_tup 2 (da_cons (d_var (ra := rInt) (x := go) 15 (da_one (d_ix (d_var (ra := rK5) (x := kd) 4 (d_int (i_tup 4 (sw_f trivial (da_all0 ⟨(by walk_at "sc"), ?_⟩))))))))))))))))))))))))))))))))
    refine s_set 17 (d_lst (ra := rInt) (da_all (d_call N.law_towards (ok_law_towards N T) (da_cons (d_ix (d_var (ra := rB4) (x := b) 8 (d_int (i_tup 3 (da_cons (d_var (ra := rInt) (x := go) 15 (da_one (d_ix (d_var (ra := rK5) (x := kd) 4 (d_int (i_tup 3 (sw_f trivial (da_all (d_call N.law_towards (ok_law_towards N T) (da_cons (d_ix (d_var (ra := rB4) (x := b) 8 (d_int (i_tup 3 (da_cons (d_var (ra := rInt) (x := go) 15 (da_one (d_ix (d_var (ra := rK5) (x := kd) 4 (d_int (i_tup 4 (sw_f trivial (da_all0 ⟨(by walk_at "sc"), ?_⟩))))))))))))))))))))))))))))))))
    refine s_expr (d_app (ra := rB4) (d_var 10 ⟨_, _, inferInstance, (d_tup (da_cons (d_bin (d_var 13 (d_ix (d_var (ra := rPr) 12 (d_int (i_tup 0 (o_add (da_cons (d_bin (d_var 14 (d_ix (d_var (ra := rPr) 12 (d_int (i_tup 1 (o_add (da_cons (d_callB T.min bt_min (da_one (d_var (ra := rLst rInt) 16 (c_minG (by exact Nat.zero_lt_succ _) (fun m hm1 hm2 => (da_one (d_callB T.max bt_max (da_one (d_var (ra := rLst rInt) 17 (c_maxG (by exact Nat.zero_lt_succ _) (fun m2 hn1 hn2 => ⟨_, _, inferInstance, ?_, ?_⟩)))))))))))))))))))))))))))))⟩))
    · rw [List.length_map, List.length_range]
      omega
    · refine s_next (d + 1) ⟨rfl, by omega⟩ ⟨rfl, rfl, rfl, rfl, rfl, rfl, rfl, rfl, rfl, rfl, rfl, trivial⟩ ?_
      rw [List.range_succ (n := d), List.map_append]
      rw [nlv_min (up := b.2.2.2) hkd hm1 hm2, nlv_max (dn := b.2.2.1) hkd hn1 hn2, ← eg]
      rfl
  · obtain ⟨rfl, _⟩ := hd
    rw [rgI_len]
    have erow : (List.range (l + 1 - f)).map (fun j => nbRow ⟨fxOf ch, lgOf ch, r, sd, lv, kd, slipOf ru, windAt ws t⟩ b (f + j)) = nbRows ⟨fxOf ch, lgOf ch, r, sd, lv, kd, slipOf ru, windAt ws t⟩ b := by
      unfold nbRows
      dsimp only
      rw [ef, el]
    dsimp only
    rw [erow]
    have hrl : (nbRows ⟨fxOf ch, lgOf ch, r, sd, lv, kd, slipOf ru, windAt ws t⟩ b).length = l + 1 - f := by
      rw [← erow, List.length_map, List.length_range]
    have hpos : ∀ {γ : Type} (g : B4 → γ), 0 < ((nbRows ⟨fxOf ch, lgOf ch, r, sd, lv, kd, slipOf ru, windAt ws t⟩ b).map g).length := fun g => by
      rw [List.length_map, hrl]
      omega
    have hsz : (nbRows ⟨fxOf ch, lgOf ch, r, sd, lv, kd, slipOf ru, windAt ws t⟩ b).length ≤ sizeLine := by omega
    exact s_ret (d_tup (da_cons ((d_callB T.min bt_min (da_one (d_lcPw (js := [18]) (ra := rB4) (rb := rInt) (f := fun x : B4 => x.1) [("_law_end", 18)] [18] (fun _ => blkOk_by (N := N_law_next) (sc := defScope s_law_next) (by decide +kernel)) (w_own (d_var 10 ⟨_, _, inferInstance, ⟨rfl, hsz, fun gg D ys x hx => (g_name 18 (d_ix (d_var (ra := rB4) (x := x) 18 (d_int (i_tup 0 ⟨rfl, rfl⟩))))), (c_minG (hpos _) (fun m0 m0a m0b => da_cons ((d_callB T.max bt_max (da_one (d_lcPw (js := [18]) (ra := rB4) (rb := rInt) (f := fun x : B4 => x.2.1) [("_law_end", 18)] [18] (fun _ => blkOk_by (N := N_law_next) (sc := defScope s_law_next) (by decide +kernel)) (w_own (d_var 10 ⟨_, _, inferInstance, ⟨rfl, hsz, fun gg D ys x hx => (g_name 18 (d_ix (d_var (ra := rB4) (x := x) 18 (d_int (i_tup 1 ⟨rfl, rfl⟩))))), (c_maxG (hpos _) (fun m1 m1a m1b => da_cons ((d_callB T.min bt_min (da_one (d_lcPw (js := [18]) (ra := rB4) (rb := rInt) (f := fun x : B4 => x.2.2.1) [("_law_end", 18)] [18] (fun _ => blkOk_by (N := N_law_next) (sc := defScope s_law_next) (by decide +kernel)) (w_own (d_var 10 ⟨_, _, inferInstance, ⟨rfl, hsz, fun gg D ys x hx => (g_name 18 (d_ix (d_var (ra := rB4) (x := x) 18 (d_int (i_tup 2 ⟨rfl, rfl⟩))))), (c_minG (hpos _) (fun m2 m2a m2b => da_one ((d_callB T.max bt_max (da_one (d_lcPw (js := [18]) (ra := rB4) (rb := rInt) (f := fun x : B4 => x.2.2.2) [("_law_end", 18)] [18] (fun _ => blkOk_by (N := N_law_next) (sc := defScope s_law_next) (by decide +kernel)) (w_own (d_var 10 ⟨_, _, inferInstance, ⟨rfl, hsz, fun gg D ys x hx => (g_name 18 (d_ix (d_var (ra := rB4) (x := x) 18 (d_int (i_tup 3 ⟨rfl, rfl⟩))))), (c_maxG (hpos _) (fun m3 m3a m3b => hk' (nb_of h2 hs hb hkd m0a m0b m1a m1b m2a m2b m3a m3b)))⟩⟩))))))))⟩⟩))))))))⟩⟩))))))))⟩⟩))))))))
end
end Law
set_option Elab.async false
set_option linter.all false
set_option maxRecDepth 100000
set_option maxHeartbeats 4100000
/-! TcA: codes and tubes by the law (k13). -/
namespace Law
open PySem L2 Evl Sk MP M10
local macro_rules | `(tactic| walk_at "sc") => `(tactic| first | omega | assumption | (with_reducible exact mulOk) | (with_reducible exact smOk) | (with_reducible exact ⟨by decide, smOk⟩) | decide | (simp only [List.length_cons, List.length_nil]; decide) | exact divOk (by omega))
theorem below_mem {fx : Fx} {r : List Str} {b : B4} {x : Int} : x ∈ below fx r b ↔ ∃ k : Nat, x = (k : Int) ∧ OnB fx r b k := by
  constructor
  · intro h
    obtain ⟨i, hi⟩ := List.getElem?_of_mem h
    obtain ⟨k, e, ho, _⟩ := below_get hi
    exact ⟨k, e, ho⟩
  · rintro ⟨k, e, ho⟩
    subst e
    obtain ⟨i, hi, ek⟩ := below_of ho
    obtain ⟨y, hy⟩ : ∃ y, (below fx r b)[i]? = some y := ⟨_, List.getElem?_eq_getElem hi⟩
    obtain ⟨k2, e2, _, e3⟩ := below_get hy
    have : k2 = k := by omega
    subst this
    rw [← e2]
    exact List.mem_of_getElem? hy
/-- the legs below a box -/
def unders (fx : Fx) (legs : List Leg) (r : List Str) (b : B4) : List Leg := (below fx r b).map fun k => lgAt legs r k.toNat
theorem unders_mem {fx : Fx} {legs : List Leg} {r : List Str} {b : B4} {l : Leg} : l ∈ unders fx legs r b ↔ ∃ k : Nat, OnB fx r b k ∧ l = lgAt legs r k := by
  unfold unders
  rw [List.mem_map]
  constructor
  · rintro ⟨x, hx, e⟩
    obtain ⟨k, e2, ho⟩ := below_mem.mp hx
    subst e2
    exact ⟨k, ho, by rw [← e, Int.toNat_natCast]⟩
  · rintro ⟨k, ho, e⟩
    exact ⟨(k : Int), below_mem.mpr ⟨k, rfl, ho⟩, by rw [Int.toNat_natCast]; exact e.symm⟩
abbrev lvT (b : B4) (l : Leg) : Bool := decide (b.2.2.1 < l.2.2.2.1) || decide (b.2.2.2 > l.2.2.2.2)
theorem lv_any {fx : Fx} {legs : List Leg} {r : List Str} {b : B4} : ((unders fx legs r b).map (lvT b)).any (fun x => x) = false ↔ LvOk fx legs r b := by
  rw [List.any_map, List.any_eq_false]
  constructor
  · intro h k ho
    have := h _ (unders_mem.mpr ⟨k, ho, rfl⟩)
    have z : ¬ (lvT b (lgAt legs r k) = true) := this
    simp only [Bool.or_eq_true, decide_eq_true_eq] at z
    omega
  · intro h l hl
    obtain ⟨k, ho, e⟩ := unders_mem.mp hl
    subst e
    have := h k ho
    show ¬ (lvT b (lgAt legs r k) = true)
    simp only [Bool.or_eq_true, decide_eq_true_eq]
    omega
abbrev hrT (t : Int) (ls : List Leg) (h : Hr) : Bool := (decide (h.2.2.1 ≤ t) && decide (t ≤ h.2.2.2)) && (ls.map fun l => decide ((l.1, l.2.1) = (h.1, h.2.1))).any fun x => x
theorem hr_ok {fx : Fx} {legs : List Leg} {r : List Str} {b : B4} {hs : List Hr} {t : Int} (h : ∀ x ∈ hs, hrT t (unders fx legs r b) x = false) : HrOk fx legs r hs t b := by
  intro k ho
  unfold shutK
  rw [List.any_eq_false]
  intro x hx hm
  have h1 := h x hx
  unfold hrM at hm
  simp only [Bool.and_eq_true, decide_eq_true_eq] at hm
  obtain ⟨e1, e2, e3, e4⟩ := hm
  unfold hrT at h1
  rw [decide_eq_true e3, decide_eq_true e4, Bool.true_and, Bool.true_and, List.any_map, List.any_eq_false] at h1
  exact h1 _ (unders_mem.mpr ⟨k, ho, rfl⟩) (decide_eq_true (by rw [e1, e2]))
theorem hr_no {fx : Fx} {legs : List Leg} {r : List Str} {b : B4} {hs : List Hr} {t : Int} {x : Hr} (hx : x ∈ hs) (h : hrT t (unders fx legs r b) x = true) : ¬ HrOk fx legs r hs t b := by
  intro hh
  unfold hrT at h
  simp only [Bool.and_eq_true, decide_eq_true_eq] at h
  obtain ⟨⟨e3, e4⟩, h5⟩ := h
  rw [List.any_map, List.any_eq_true] at h5
  obtain ⟨l, hl, e5⟩ := h5
  obtain ⟨k, ho, e⟩ := unders_mem.mp hl
  have e5 : (l.1, l.2.1) = (x.1, x.2.1) := of_decide_eq_true e5
  rw [Prod.mk.injEq] at e5
  have h6 := hh k ho
  unfold shutK at h6
  rw [List.any_eq_false] at h6
  refine h6 x hx ?_
  unfold hrM
  rw [← e, decide_eq_true e5.1.symm, decide_eq_true e5.2.symm, decide_eq_true e3, decide_eq_true e4]
  rfl
theorem neg_lv {fx : Fx} {legs : List Leg} {r : List Str} {b : B4} (h : b.2.1 < 0) : LvOk fx legs r b := fun k ho => by
  have := ho.1
  omega
theorem neg_hr {fx : Fx} {legs : List Leg} {r : List Str} {b : B4} {hs : List Hr} {t : Int} (h : b.2.1 < 0) : HrOk fx legs r hs t b := fun k ho => by
  have := ho.1
  omega
section
variable {P : Program} {w : World} {K : PySem.W.Frag} {mg : Str → Option Value} {base : Heap}
abbrev CdA := ChV × List Str × List Int × CrV × RuV × List W4 × Int × B4 × Int
abbrev cdIn (ch : ChV) (r : List Str) (sd lv : Int) (kd : K5) (ru : RuV) (ws : List W4) : TbIn := ⟨fxOf ch, lgOf ch, r, sd, lv, kd, slipOf ru, ws, hrOf ch⟩
/-- what the code tells -/
def CodeP (n : TbIn) (t : Int) (b : B4) (m : Int) (y : Str) : Prop := (m = 240 ∧ y = "long") ∨ m ≠ 240 ∧ ((y = "" ∧ St3 n t b) ∨ CodeAt n t b y)
structure CdOk (x : CdA) : Prop where
  ch : ChOk x.1
  rt : RtV x.1 x.2.1
  bs : x.2.2.1 = begins (fxOf x.1) x.2.1
  wd : WdOk x.2.2.2.2.2.1
  t0 : 0 ≤ x.2.2.2.2.2.2.1
  bx : BoxOk x.2.2.2.2.2.2.2.1
  hl : (hrOf x.1).length ≤ 1000
  ho : HrsOk (hrOf x.1)
abbrev sp_code (K : Fg) : Sp := sp0 K [] (fCons rChart (fCons (rTpv rStr) (fCons (rLst rInt) (fCons rCrs (fCons rRules (fCons (rLst rWnd) (fCons rInt (fCons rB4 (fOne rInt))))))))) CdOk rStr fun x y => ∀ kd, CodeP (cdIn x.1 x.2.1 x.2.2.2.1.2.1 x.2.2.2.1.2.2 kd x.2.2.2.2.1 x.2.2.2.2.2.1) x.2.2.2.2.2.2.1 x.2.2.2.2.2.2.2.1 x.2.2.2.2.2.2.2.2 y
abbrev N_code : List Str := ["_law_chart_here", "_law_route", "_law_begins_here", "_law_course", "_law_rules_here", "_law_winds_here", "_law_tick", "_law_box", "_law_many", "_law_wind", "_law_k", "_law_under", "_law_legs_here", "_law_hour", "_law_leg_here"]
theorem sc_code : FnScope N_code ["_law_chart_here", "_law_route", "_law_begins_here", "_law_course", "_law_rules_here", "_law_winds_here", "_law_tick", "_law_box", "_law_many"] (defScope s_code) := ⟨rfl, rfl, rfl, by decide +kernel, rfl, by decide +kernel, by decide +kernel⟩
theorem ok_code (N : Nm K mg) (T : Bt mg) : FnOk P w K mg base CX0 2 N.code.f N.code.fd ["_law_chart_here", "_law_route", "_law_begins_here", "_law_course", "_law_rules_here", "_law_winds_here", "_law_tick", "_law_box", "_law_many"] (sp_code K) := by
  refine fn_m N.code.F sc_code [] fun cdv A outer s G H E x Q fam hp hk => ?_
  obtain ⟨ch, r, bs, ⟨cr, sd, lv⟩, ru, ws, t, b, m⟩ := x
  obtain ⟨hc, hr, hbs, hw, t0, hb, hhl, hho⟩ := hp
  dsimp only at hc hr hbs hw t0 hb hhl hho
  subst hbs
  have hk' : ∀ {Γ : Gm} {y : Str}, (∀ kd, CodeP (cdIn ch r sd lv kd ru ws) t b m y) → RT K ⟨[], _, G, H, []⟩ Γ [] rStr y _ := fun {Γ y} e => hk ⟨rfl, e⟩
  clear hk
  have z1 : 100000 ≤ sizeLine := by decide
  have hs := hr.strict hc
  have h2 := hr.two
  have hlen : r.length ≤ 1000 := hr.len
  have hb2 : 2 ≤ (begins (fxOf ch) r).length := by rw [begins_len]; exact h2
  have hb3 : (begins (fxOf ch) r).length ≤ 1000 := by rw [begins_len]; exact hlen
  have hla : ∀ p, laL ((List.range r.length).map (bg (fxOf ch) r)) p = la (fxOf ch) r p := fun p => laL_eq (fx := fxOf ch) h2 p
  have hwn := hw.ok t
  obtain ⟨w0, hw0, hw1⟩ := hw.first
  have A0 := (la_ok (fxOf ch) h2 (mx b.1 0)).lt
  have A1 := (la_ok (fxOf ch) h2 b.1).lt
  have A2 := (la_ok (fxOf ch) h2 b.2.1).lt
  show DS _ K ⟨[], _, G, H, []⟩ [some ⟨rChart, ch⟩, some ⟨(rTpv rStr), r⟩, some ⟨(rLst rInt), begins (fxOf ch) r⟩, some ⟨rCrs, (cr, sd, lv)⟩, some ⟨rRules, ru⟩, some ⟨(rLst rWnd), ws⟩, some ⟨rInt, t⟩, some ⟨rB4, b⟩, some ⟨rInt, m⟩, none, none, none, none, none, none] [] (defBody s_code) _
  refine s_ifP (x := decide (m = 240)) (dt_cmp (d_var (ra := rInt) (x := m) 8 (d_int (o_eqI ⟨rfl, rfl⟩)))) (fun hm => ?_) (fun hm => ?_)
  · exact s_ret (d_str (hk' fun kd => .inl ⟨of_decide_eq_true hm, rfl⟩))
  have hm := of_decide_eq_false hm
  refine s_out ?_
  refine s_ifJ (x := decide (b.2.1 ≥ 0)) (fun _ : Unit => LvOk (fxOf ch) (lgOf ch) r b ∧ HrOk (fxOf ch) (lgOf ch) r (hrOf ch) t b) (fun _ => [some ⟨rChart, ch⟩, some ⟨(rTpv rStr), r⟩, some ⟨(rLst rInt), begins (fxOf ch) r⟩, some ⟨rCrs, (cr, sd, lv)⟩, some ⟨rRules, ru⟩, some ⟨(rLst rWnd), ws⟩, some ⟨rInt, t⟩, some ⟨rB4, b⟩, some ⟨rInt, m⟩, none, none, none, none, none, none]) (fun _ => []) (dt_cmp (d_ix (d_var (ra := rB4) (x := b) 7 (d_int (i_tup 1 (d_int (o_ge ⟨rfl, rfl⟩))))))) (fun hbp => ?_) (fun hbp => ?_) (fun _ hd => ?_)
  · have hbp := of_decide_eq_true hbp
    have ebel : rgI (la (fxOf ch) r (mx b.1 0) : Int) 1 ((la (fxOf ch) r b.2.1 : Int) + 1 - (la (fxOf ch) r (mx b.1 0) : Int)).toNat = below (fxOf ch) r b := by
      unfold below
      rw [if_neg (by omega)]
    refine s_set 11 (d_listRg2 T.list T.range (d_call N.leg_at (ok_leg_at N T) (da_cons (d_var 2 (da_one (d_callB T.max bt_max (da_cons (d_ix (d_var (ra := rB4) (x := b) 7 (d_int (i_tup 0 (da_one (d_int (c_max2 (sw_f ⟨hb2, hb3⟩ (d_bin (d_call N.leg_at (ok_leg_at N T) (da_cons (d_var 2 (da_one (d_ix (d_var (ra := rB4) (x := b) 7 (d_int (i_tup 1 (sw_f ⟨hb2, hb3⟩ (d_int (o_add ⟨?_, ?_⟩)))))))))))))))))))))))))))
    · dsimp only
      rw [hla, hla]
      exact RgOk.of_le (Int.natCast_nonneg _) (by omega) (by show ((la (fxOf ch) r (mx b.1 0) : Nat) : Int) ≤ _; omega) (by omega)
    dsimp only
    rw [hla, hla, show (if 0 > b.1 then 0 else b.1) = mx b.1 0 from rfl, ebel]
    have okU : ∀ x, x ∈ below (fxOf ch) r b → ∃ k : Nat, x = (k : Int) ∧ k + 1 < r.length := fun x hx => by
      obtain ⟨k, e, ho⟩ := below_mem.mp hx
      have l1 := la_lt (fx := fxOf ch) h2 b.2.1
      exact ⟨k, e, by have := ho.2.2; omega⟩
    refine s_lcP 12 (js := [10]) (ra := rInt) (rb := rLeg) (f := fun k : Int => lgAt (lgOf ch) r k.toNat) [("_law_k", 10)] [10] (fun _ => blkOk_by (N := N_code) (sc := defScope s_code) (by decide +kernel)) (w_lst (ra := rInt) (d_var (ra := rLst rInt) (x := below (fxOf ch) r b) 11 ⟨rfl, Nat.le_trans (below_len h2 b) (by omega), fun gg D ys x hx => (g_name 10 ?_), ?_⟩))
    · obtain ⟨k, ex, hk1⟩ := okU x hx
      subst ex
      obtain ⟨l, hl1⟩ := hr.lg k hk1
      have g1 := atI_nat' (at_get (show k < r.length by omega))
      have g2 : atI r ((k : Int) + 1) = some (at_ r (k + 1)) := atI_int (by omega) (by rw [show ((k : Int) + 1).toNat = k + 1 by omega]; exact at_get hk1)
      refine (d_call N.leg (ok_leg N T) (da_cons (d_var 0 (da_cons (d_ix (d_var (ra := rTpv rStr) (x := r) 1 (d_var (ra := rInt) (x := (k : Int)) 10 (i_tpv g1 (da_one (d_ix (d_var (ra := rTpv rStr) (x := r) 1 (d_bin (d_var (ra := rInt) (x := (k : Int)) 10 (d_int (o_add (i_tpv g2 (sw_f ⟨hc.len, l, hl1⟩ ⟨?_, rfl⟩)))))))))))))))))
      rw [Int.toNat_natCast]
      rfl
    show DS _ K _ [some ⟨rChart, ch⟩, some ⟨(rTpv rStr), r⟩, some ⟨(rLst rInt), begins (fxOf ch) r⟩, some ⟨rCrs, (cr, sd, lv)⟩, some ⟨rRules, ru⟩, some ⟨(rLst rWnd), ws⟩, some ⟨rInt, t⟩, some ⟨rB4, b⟩, some ⟨rInt, m⟩, none, none, some ⟨rLst rInt, below (fxOf ch) r b⟩, some ⟨rLst rLeg, unders (fxOf ch) (lgOf ch) r b⟩, none, none] [] _ _
    have hul : (unders (fxOf ch) (lgOf ch) r b).length ≤ sizeLine := by
      unfold unders
      rw [List.length_map]
      exact Nat.le_trans (below_len h2 b) (by omega)
    have hls : ∀ l ∈ unders (fxOf ch) (lgOf ch) r b, PyData.strOk l.1 = true ∧ PyData.strOk l.2.1 = true := fun l hl => by
      obtain ⟨k, ho, e⟩ := unders_mem.mp hl
      have l1 := la_lt (fx := fxOf ch) h2 b.2.1
      obtain ⟨l2, hl2⟩ := hr.lg k (by have := ho.2.2; omega)
      rw [e]
      unfold lgAt
      rw [hl2]
      obtain ⟨a1, a2, _⟩ := hc.so l2 (List.mem_of_find?_eq_some hl2)
      exact ⟨a1, a2⟩
    generalize eu : unders (fxOf ch) (lgOf ch) r b = us at hul hls
    refine s_ifP (x := (us.map (lvT b)).any fun x => x) (dt_val (d_callB T.any bt_any (da_one (d_lcP (js := [14]) (ra := rLeg) (rb := rBool) (f := lvT b) [("_law_leg_here", 14)] [14] (fun _ => blkOk_by (N := N_code) (sc := defScope s_code) (by decide +kernel)) (w_lst (ra := rLeg) (d_var (ra := rLst rLeg) (x := us) 12 ⟨rfl, hul, fun gg D ys l hl => (g_name 14 (d_orP (d_cmp (d_ix (d_var (ra := rB4) (x := b) 7 (d_int (i_tup 2 (d_ix (d_var (ra := rLeg) (x := l) 14 (d_int (i_tup 3 (o_lt ⟨rfl, rfl⟩)))))))))) (fun _ => (d_one (d_cmp (d_ix (d_var (ra := rB4) (x := b) 7 (d_int (i_tup 3 (d_ix (d_var (ra := rLeg) (x := l) 14 (d_int (i_tup 4 (o_gt ⟨rfl, rfl⟩)))))))))))))), (c_anyG ⟨rfl, rfl⟩)⟩)))))) (fun hlv => ?_) (fun hlv => ?_)
    · refine s_ret (d_str (hk' fun kd => .inr ⟨hm, .inr (.inl ⟨rfl, fun h => ?_⟩)⟩))
      have h : LvOk (fxOf ch) (lgOf ch) r b := h
      rw [← lv_any, eu, hlv] at h
      cases h
    rw [← eu] at hlv
    have hlv := lv_any.mp hlv
    refine s_out ?_
    refine s_for (js := [13]) (w_lst (ra := rHour) (d_recP 0 5 rfl chN_nd ?_))
    refine ⟨Unit, fun i _ => ∀ (j : Nat) (x : Hr), j < i → (hrOf ch)[j]? = some x → hrT t us x = false, fun _ => [some ⟨rChart, ch⟩, some ⟨(rTpv rStr), r⟩, some ⟨(rLst rInt), begins (fxOf ch) r⟩, some ⟨rCrs, (cr, sd, lv)⟩, some ⟨rRules, ru⟩, some ⟨(rLst rWnd), ws⟩, some ⟨rInt, t⟩, some ⟨rB4, b⟩, some ⟨rInt, m⟩, none, none, some ⟨rLst rInt, below (fxOf ch) r b⟩, some ⟨rLst rLeg, us⟩, none, none], fun _ => [], ⟨(), fun j x h => absurd h (Nat.not_lt_zero _), ⟨rfl, rfl, rfl, rfl, rfl, rfl, rfl, rfl, rfl, rfl, rfl, trivial⟩, rfl⟩, fun g i h d hx hd => (g_name 13 ?_), fun d hd => ?_⟩
    · have hmem : h ∈ hrOf ch := List.mem_of_getElem? hx
      refine s_ifP (x := hrT t us h) (dt_bool (dp_andP (dt_chainP (d_ix (d_var (ra := rHour) (x := h) 13 (d_int (i_tup 2 (d_var (ra := rInt) (x := t) 6 (o_le ⟨rfl, rfl, fun hb => (d_ix (d_var (ra := rHour) (x := h) 13 (d_int (i_tup 3 (o_le ⟨rfl, rfl⟩)))))⟩))))))) (fun _ => (dp_and1 (dt_val (d_callB T.any bt_any (da_one (d_lcP (js := [14]) (ra := rLeg) (rb := rBool) (f := fun l : Leg => decide ((l.1, l.2.1) = (h.1, h.2.1))) [("_law_leg_here", 14)] [14] (fun _ => blkOk_by (N := N_code) (sc := defScope s_code) (by decide +kernel)) (w_lst (ra := rLeg) (d_var (ra := rLst rLeg) (x := us) 12 ⟨rfl, hul, fun gg D ys l hl => (g_name 14 (d_cmp (d_slice (d_var (ra := rLeg) (x := l) 14 (do_no (do_at (d_int (sl_p2 (by decide) (d_slice (d_var (ra := rHour) (x := h) 13 (do_no (do_at (d_int (sl_p2 (by decide) (o_eqD (hls l hl) (hho h hmem) ⟨rfl, rfl⟩))))))))))))))), (c_anyG ⟨rfl, rfl⟩)⟩)))))))))) (fun hb => ?_) (fun hb => ?_)
      · refine s_ret (d_str (rt_in (hk' fun kd => .inr ⟨hm, .inr (.inr (.inl ⟨rfl, hlv, ?_⟩))⟩)))
        exact hr_no hmem (by rw [eu]; exact hb)
      · refine s_out (s_next () (fun j x hj hjx => ?_) ⟨rfl, rfl, rfl, rfl, rfl, rfl, rfl, rfl, rfl, rfl, rfl, trivial⟩ rfl)
        by_cases e : j = i
        · subst e
          rw [hx] at hjx
          cases hjx
          exact hb
        · exact hd j x (by omega) hjx
    · have hok : HrOk (fxOf ch) (lgOf ch) r (hrOf ch) t b := hr_ok fun x hx => by
        obtain ⟨j, hj⟩ := List.getElem?_of_mem hx
        rw [eu]
        exact hd j x (List.getElem?_eq_some_iff.mp hj).1 hj
      exact s_nil fun σ G H W => ⟨(), G, ⟨hlv, hok⟩, W.wk ⟨rfl, rfl, rfl, rfl, rfl, rfl, rfl, rfl, rfl, trivial⟩⟩
  · have hbp := of_decide_eq_false hbp
    exact s_join () ⟨neg_lv (by omega), neg_hr (by omega)⟩ ⟨rfl, rfl, rfl, rfl, rfl, rfl, rfl, rfl, rfl, trivial⟩ rfl
  · obtain ⟨hlv, hhr⟩ := hd
    refine s_set 9 (d_call N.law_wind_at (ok_law_wind_at N T) (da_cons (d_var 5 (da_one (d_var 6 (sw_f ⟨⟨w0, hw0, by dsimp only; omega⟩, hw.len⟩ ?_))))))
    refine s_for (js := [10]) (w_rng2 T.range (d_call N.leg_at (ok_leg_at N T) (da_cons (d_var 2 (da_one (d_ix (d_var (ra := rB4) (x := b) 7 (d_int (i_tup 0 (sw_f ⟨hb2, hb3⟩ (d_bin (d_call N.leg_at (ok_leg_at N T) (da_cons (d_var 2 (da_one (d_ix (d_var (ra := rB4) (x := b) 7 (d_int (i_tup 1 (sw_f ⟨hb2, hb3⟩ (d_int (o_add ⟨?_, ?_⟩))))))))))))))))))))))
    · dsimp only
      rw [hla, hla]
      omega
    dsimp only
    rw [hla, hla]
    refine ⟨Unit, fun i _ => ∀ j, j < i → 1 ≤ (bnd (fxOf ch) r sd (slipOf ru) (windAt ws t) (la (fxOf ch) r b.1 + j)).1, fun _ => [some ⟨rChart, ch⟩, some ⟨(rTpv rStr), r⟩, some ⟨(rLst rInt), begins (fxOf ch) r⟩, some ⟨rCrs, (cr, sd, lv)⟩, some ⟨rRules, ru⟩, some ⟨(rLst rWnd), ws⟩, some ⟨rInt, t⟩, some ⟨rB4, b⟩, some ⟨rInt, m⟩, some ⟨rWnd, windAt ws t⟩, none, none, none, none, none], fun _ => [], ⟨(), fun j h => absurd h (Nat.not_lt_zero _), ⟨rfl, rfl, rfl, rfl, rfl, rfl, rfl, rfl, rfl, rfl, trivial⟩, rfl⟩, fun g i x d hx hd => (g_name 10 ?_), fun d hd => ?_⟩
    · obtain ⟨hlt, ex⟩ := rgI_item hx
      have ex : x = ((la (fxOf ch) r b.1 + i : Nat) : Int) := by omega
      subst ex
      have hi2 : la (fxOf ch) r b.1 + i ≤ la (fxOf ch) r b.2.1 := by omega
      refine s_ifP (dt_cmp (d_ix (d_call N.bounds (ok_bounds N T) (da_cons (d_var 0 (da_cons (d_var 1 (da_cons (d_var 2 (da_cons (d_var (ra := rInt) (x := ((la (fxOf ch) r b.1 + i : Nat) : Int)) 10 (da_cons (d_ix (d_var (ra := rCrs) (x := (cr, sd, lv)) 3 (d_int (i_tup 1 (da_cons (d_recP 4 4 rfl ruN_nd (da_one (d_var 9 (sw_f ⟨hr, hs, rfl, Int.natCast_nonneg _, by dsimp only; rw [Int.toNat_natCast]; omega, hwn⟩ (d_int (i_tup 0 (d_int (o_lt ⟨rfl, rfl⟩))))))))))))))))))))))))) (fun hb => ?_) (fun hb => ?_)
      · refine s_ret (d_str (rt_in (hk' fun kd => .inr ⟨hm, .inr (.inr (.inr ⟨rfl, hlv, hhr, fun h => ?_⟩))⟩)))
        have h1 : 1 ≤ (bnd (fxOf ch) r sd (slipOf ru) (windAt ws t) (la (fxOf ch) r b.1 + i)).1 := h (la (fxOf ch) r b.1 + i) (Nat.le_add_right _ _) hi2
        have hb : (bnd (fxOf ch) r sd (slipOf ru) (windAt ws t) ((la (fxOf ch) r b.1 + i : Nat) : Int).toNat).1 < 1 := of_decide_eq_true hb
        rw [Int.toNat_natCast] at hb
        omega
      · refine s_out (s_next () (fun j hj => ?_) ⟨rfl, rfl, rfl, rfl, rfl, rfl, rfl, rfl, rfl, rfl, trivial⟩ rfl)
        by_cases e : j = i
        · subst e
          have hb : ¬ (bnd (fxOf ch) r sd (slipOf ru) (windAt ws t) ((la (fxOf ch) r b.1 + j : Nat) : Int).toNat).1 < 1 := of_decide_eq_false hb
          rw [Int.toNat_natCast] at hb
          omega
        · exact hd j (by omega)
    · rw [rgI_len] at hd
      refine s_ret (d_str (hk' fun kd => .inr ⟨hm, .inl ⟨rfl, hlv, hhr, fun k hk1 hk2 => ?_⟩⟩))
      have := hd (k - la (fxOf ch) r b.1) (by have hk1 : la (fxOf ch) r b.1 ≤ k := hk1; have hk2 : k ≤ la (fxOf ch) r b.2.1 := hk2; omega)
      rw [show la (fxOf ch) r b.1 + (k - la (fxOf ch) r b.1) = k by have hk1 : la (fxOf ch) r b.1 ≤ k := hk1; omega] at this
      exact this
end
end Law
set_option Elab.async false
set_option linter.all false
set_option maxRecDepth 100000
set_option maxHeartbeats 4100000
/-! TcB: tubes by the law, what is found, told (k13). -/
namespace Law
open PySem L2 Evl Sk MP M10
local macro_rules | `(tactic| walk_at "sc") => `(tactic| first | omega | assumption | (with_reducible exact mulOk) | (with_reducible exact smOk) | (with_reducible exact ⟨by decide, smOk⟩) | decide | (simp only [List.length_cons, List.length_nil]; decide) | exact divOk (by omega))
abbrev rCT : Rp (Str × Int) := rTup (fCons rStr (fOne rInt))
/-- boxes of one's own, or a code and its tick -/
def rRes : Rp (Addr ⊕ (Str × Int)) := ⟨fun K G v x => match x with
  | .inl q => v = .ref q
  | .inr p => rCT.rep K G v p, fun {K G H v x} e h => match x, h with
  | .inl _, h => h
  | .inr p, h => rCT.mono e h⟩
def ResP (n : TbIn) (t : Int) (b : B4) : Addr ⊕ (Str × Int) → List Own → Prop
  | .inl q, O' => ∃ bs, TubeOut n t b bs ∧ O' = [⟨q, oLst rB4, bs⟩]
  | .inr p, O' => TubeErr n t b p.1 p.2 ∧ O' = []
section
variable {P : Program} {w : World} {K : PySem.W.Frag} {mg : Str → Option Value} {base : Heap}
abbrev LtA := ChV × List Str × List Int × CrV × K5 × RuV × List W4 × Int × B4
structure LtOk (x : LtA) : Prop where
  ch : ChOk x.1
  rt : RtV x.1 x.2.1
  bs : x.2.2.1 = begins (fxOf x.1) x.2.1
  sl : 0 ≤ slipOf x.2.2.2.2.2.1
  wd : WdOk x.2.2.2.2.2.2.1
  kd : x.2.2.2.2.1.2.2.2.1 ≤ x.2.2.2.2.1.2.2.2.2
  t0 : 0 ≤ x.2.2.2.2.2.2.2.1
  bx : BoxOk x.2.2.2.2.2.2.2.2
  hl : (hrOf x.1).length ≤ 1000
  ho : HrsOk (hrOf x.1)
abbrev sp_law_tube (K : Fg) : Sp := spM K [] (fCons rChart (fCons (rTpv rStr) (fCons (rLst rInt) (fCons rCrs (fCons rK5 (fCons rRules (fCons (rLst rWnd) (fCons rInt (fOne rB4))))))))) LtOk (fun _ => []) rRes fun x y O' => ResP (cdIn x.1 x.2.1 x.2.2.2.1.2.1 x.2.2.2.1.2.2 x.2.2.2.2.1 x.2.2.2.2.2.1 x.2.2.2.2.2.2.1) x.2.2.2.2.2.2.2.1 x.2.2.2.2.2.2.2.2 y O'
abbrev N_law_tube : List Str := ["_law_chart_here", "_law_route", "_law_begins_here", "_law_course", "_law_kind_here", "_law_rules_here", "_law_winds_here", "_law_tick", "_law_box", "_law_boxes", "_law_k", "_law_code_here"]
theorem sc_law_tube : FnScope N_law_tube ["_law_chart_here", "_law_route", "_law_begins_here", "_law_course", "_law_kind_here", "_law_rules_here", "_law_winds_here", "_law_tick", "_law_box"] (defScope s_law_tube) := ⟨rfl, rfl, rfl, by decide +kernel, rfl, by decide +kernel, by decide +kernel⟩
theorem ok_law_tube (N : Nm K mg) (T : Bt mg) : FnOk P w K mg base CX0 4 N.law_tube.f N.law_tube.fd ["_law_chart_here", "_law_route", "_law_begins_here", "_law_course", "_law_kind_here", "_law_rules_here", "_law_winds_here", "_law_tick", "_law_box"] (sp_law_tube K) := by
  refine fn_m N.law_tube.F sc_law_tube [] fun cdv A outer s G H E x Q fam hp hk => ?_
  obtain ⟨ch, r, bg0, ⟨cr, sd, lv⟩, kd, ru, ws, t, b0⟩ := x
  obtain ⟨hc, hr, hbs, hsl, hw, hkd, t0, hb0, hhl, hho⟩ := hp
  dsimp only at hc hr hbs hsl hw hkd t0 hb0 hhl hho
  subst hbs
  generalize en : cdIn ch r sd lv kd ru ws = n
  have hkE : ∀ {Γ : Gm} {O : List Own} {c : Str} {t' : Int}, TubeErr n t b0 c t' → RT K ⟨[], _, G, H, []⟩ Γ O rRes (.inr (c, t')) _ := fun {Γ O c t'} e => rt_drop (hk ⟨by rw [← en] at e; exact e, rfl⟩)
  have hkO : ∀ {Γ : Gm} {q : Addr} {bs : List B4}, TubeOut n t b0 bs → RT K ⟨[], _, G, H, []⟩ Γ [⟨q, oLst rB4, bs⟩] rRes (.inl q) _ := fun {Γ q bs} e => hk ⟨bs, by rw [← en] at e; exact e, rfl⟩
  clear hk
  have z1 : 100000 ≤ sizeLine := by decide
  have hs := hr.strict hc
  have h2 := hr.two
  have hlen : r.length ≤ 1000 := hr.len
  have hb2 : 2 ≤ (begins (fxOf ch) r).length := by rw [begins_len]; exact h2
  have hno : ∀ t', n.nb t' = ⟨fxOf ch, lgOf ch, r, sd, lv, kd, slipOf ru, windAt ws t'⟩ := fun t' => by rw [← en]; rfl
  have hsp : SpOk n ↔ kd.2.1 ≤ sd ∧ sd ≤ kd.2.2.1 := by rw [← en]; exact Iff.rfl
  have htt : tot n.fx n.r = tot (fxOf ch) r := by rw [← en]
  have hbo : ∀ {bs b}, TubeSt n t b0 bs b → BoxOk b := fun h => (h.box hb0 (by rw [← en]; exact fun t' k => slow_le hr hs hsl hw t' k)).1
  have gt : atI (begins (fxOf ch) r) ((begins (fxOf ch) r).length - 1 : Int) = some (tot (fxOf ch) r) := by
    have hbl := begins_len (fxOf ch) r
    refine atI_int (by omega) ?_
    rw [show (((begins (fxOf ch) r).length : Int) - 1).toNat = r.length - 1 by omega]
    exact bg_get (by omega)
  show DS _ K ⟨[], _, G, H, []⟩ [some ⟨rChart, ch⟩, some ⟨(rTpv rStr), r⟩, some ⟨(rLst rInt), begins (fxOf ch) r⟩, some ⟨rCrs, (cr, sd, lv)⟩, some ⟨rK5, kd⟩, some ⟨rRules, ru⟩, some ⟨(rLst rWnd), ws⟩, some ⟨rInt, t⟩, some ⟨rB4, b0⟩, none, none, none] [] (defBody s_law_tube) _
  refine s_ifP (x := decide (sd < kd.2.1) || decide (sd > kd.2.2.1)) (dt_bool (dp_orP (dt_cmp (d_ix (d_var (ra := rCrs) (x := (cr, sd, lv)) 3 (d_int (i_tup 1 (d_ix (d_var (ra := rK5) (x := kd) 4 (d_int (i_tup 1 (o_lt ⟨rfl, rfl⟩)))))))))) (fun hb => (dp_or1 (dt_cmp (d_ix (d_var (ra := rCrs) (x := (cr, sd, lv)) 3 (d_int (i_tup 1 (d_ix (d_var (ra := rK5) (x := kd) 4 (d_int (i_tup 2 (o_gt ⟨rfl, rfl⟩)))))))))))))) (fun hb => ?_) (fun hb => ?_)
  · refine s_ret (d_re (x := fun _ _ => True) (ra := rCT) (rc := rRes) (d_tup (da_cons (d_str (da_one (d_var (ra := rInt) (x := t) 7 ⟨.inr ("speed", t), fun h => h, hkE (.inl ⟨rfl, rfl, fun h => ?_⟩)⟩))))))
    obtain ⟨h1, h2⟩ := hsp.mp h
    rw [Bool.or_eq_true, decide_eq_true_eq, decide_eq_true_eq] at hb
    omega
  have hspo : SpOk n := by
    rw [Bool.or_eq_false_iff, decide_eq_false_iff_not, decide_eq_false_iff_not] at hb
    exact hsp.mpr (by omega)
  refine s_out ?_
  refine s_set 9 (d_lstO (ra := rB4) (da_all0 ⟨(by walk_at "sc"), fun q9 hq9 => ?_⟩))
  refine s_for (js := [10]) (w_rng1 T.range (d_int ⟨(by omega), ?_⟩))
  refine ⟨List B4 × B4, fun i d => TubeSt n t b0 d.1 d.2 ∧ d.1.length = i, fun d => [some ⟨rChart, ch⟩, some ⟨(rTpv rStr), r⟩, some ⟨(rLst rInt), begins (fxOf ch) r⟩, some ⟨rCrs, (cr, sd, lv)⟩, some ⟨rK5, kd⟩, some ⟨rRules, ru⟩, some ⟨(rLst rWnd), ws⟩, some ⟨rInt, t⟩, some ⟨rB4, d.2⟩, some ⟨rAdr, q9⟩, none, none], fun d => [⟨q9, oLst rB4, d.1⟩], ⟨([], b0), ⟨.nil, rfl⟩, ⟨rfl, rfl, rfl, rfl, rfl, rfl, rfl, rfl, rfl, rfl, trivial⟩, rfl⟩, fun g i k d hx hd => (g_name 10 ?_), fun d hd => ?_⟩
  · obtain ⟨bs, b⟩ := d
    obtain ⟨hd, hli⟩ := hd
    have hd : TubeSt n t b0 bs b := hd
    have hli : bs.length = i := hli
    have hlen := hd.len
    have hb4 := hbo hd
    obtain ⟨hlt, ex⟩ := rgI_item hx
    have ex : k = (i : Int) := by omega
    subst ex
    dsimp only
    refine s_ifP (x := decide (b.1 ≥ tot (fxOf ch) r)) (dt_cmp (d_ix (d_var (ra := rB4) (x := b) 8 (d_int (i_tup 0 (d_ix (d_var (ra := rLst rInt) (x := begins (fxOf ch) r) 2 (d_bin (d_callB T.len bt_len (da_one (d_var (ra := rLst rInt) (x := begins (fxOf ch) r) 2 (c_lenL (d_int (o_sub (i_lst gt (o_ge ⟨rfl, rfl⟩)))))))))))))))) (fun hb => ?_) (fun hb => ?_)
    · have hb := of_decide_eq_true hb
      exact s_ret (d_re (x := fun _ _ => True) (ra := rAdr) (rc := rRes) (d_var 9 ⟨.inl q9, fun h => h, rt_in (hkO ⟨hspo, b, hd, by rw [htt]; exact hb⟩)⟩))
    have hb := of_decide_eq_false hb
    have hlt2 : b.1 < tot n.fx n.r := by rw [htt]; omega
    refine s_out ?_
    refine s_set 11 (d_call N.code (ok_code N T) (da_cons (d_var 0 (da_cons (d_var 1 (da_cons (d_var 2 (da_cons (d_var (ra := rCrs) (x := (cr, sd, lv)) 3 (da_cons (d_var 5 (da_cons (d_var 6 (da_cons (d_bin (d_var (ra := rInt) (x := t) 7 (d_var (ra := rInt) (x := (i : Int)) 10 (o_add (da_cons (d_var (ra := rB4) (x := b) 8 (da_one (d_var (ra := rInt) (x := (i : Int)) 10 (sw_0 ⟨hc, hr, rfl, hw, by dsimp only; omega, hb4, hhl, hho⟩ (fun y hy => ?_))))))))))))))))))))))))
    have hy : CodeP n (t + i) b i y := by
      have z := hy kd
      rw [← en]
      exact z
    refine s_ifP (x := !decide (y = "")) (dt_cmp (d_var (ra := rStr) (x := y) 11 (d_str (o_neS ⟨rfl, rfl⟩)))) (fun hc2 => ?_) (fun hc2 => ?_)
    · refine s_ret (d_re (x := fun _ _ => True) (ra := rCT) (rc := rRes) (d_tup (da_cons (d_var (ra := rStr) (x := y) 11 (da_one (d_bin (d_var (ra := rInt) (x := t) 7 (d_var (ra := rInt) (x := (i : Int)) 10 (o_add ⟨.inr (y, t + (i : Int)), fun h => h, rt_in (hkE (.inr ⟨hspo, bs, b, hd, hlt2, by rw [hli], ?_⟩))⟩)))))))))
      rcases hy with ⟨h1, h2⟩ | ⟨h1, ⟨h2, _⟩ | h2⟩
      · exact .inl ⟨by omega, h2⟩
      · exfalso
        rw [h2] at hc2
        simp at hc2
      · exact .inr ⟨by omega, h2⟩
    refine s_out ?_
    have hc2 : y = "" := by simpa using hc2
    have hok : i ≠ 240 ∧ St3 n (t + i) b := by
      rcases hy with ⟨h1, h2⟩ | ⟨h1, ⟨h2, h3⟩ | ⟨h2, _⟩ | ⟨h2, _⟩ | ⟨h2, _⟩⟩
      · rw [hc2] at h2
        exact absurd h2 (by decide)
      · exact ⟨by omega, h3⟩
      · rw [hc2] at h2
        exact absurd h2 (by decide)
      · rw [hc2] at h2
        exact absurd h2 (by decide)
      · rw [hc2] at h2
        exact absurd h2 (by decide)
    refine s_expr (d_app (ra := rB4) (d_var 9 ⟨_, _, inferInstance, (d_var (ra := rB4) (x := b) 8 ⟨_, _, inferInstance, (by omega), ?_⟩)⟩))
    refine s_set 8 (d_call N.law_next (ok_law_next N T) (da_cons (d_var 0 (da_cons (d_var 1 (da_cons (d_var 2 (da_cons (d_var (ra := rCrs) (x := (cr, sd, lv)) 3 (da_cons (d_var (ra := rK5) (x := kd) 4 (da_cons (d_var 5 (da_cons (d_var 6 (da_cons (d_bin (d_var (ra := rInt) (x := t) 7 (d_var (ra := rInt) (x := (i : Int)) 10 (o_add (da_one (d_var (ra := rB4) (x := b) 8 (sw_0 ⟨hc, hr, rfl, hw, hkd, by dsimp only; omega, hb4⟩ (fun z hz => ?_))))))))))))))))))))))))
    have hz : NbOk (n.nb (t + bs.length)) b z := by rw [hno, hli]; exact hz
    exact s_next (bs ++ [b], z) ⟨hd.snoc hlt2 (by omega) (by rw [hli]; exact hok.2) hz, by dsimp only; rw [List.length_append, List.length_singleton, hli]⟩ ⟨rfl, rfl, rfl, rfl, rfl, rfl, rfl, rfl, rfl, rfl, trivial⟩ rfl
  · exfalso
    have h1 := hd.1.len
    have h2 := hd.2
    rw [rgI_len] at h2
    omega
end
end Law
set_option Elab.async false
set_option linter.all false
set_option maxRecDepth 100000
set_option maxHeartbeats 4100000
/-! MTd: a tube has one end. -/
namespace MP
open PySem L2 Evl Sk M10
variable {n : TbIn} {t : Int} {b0 b b' : B4} {bs bs' : List B4}
theorem TubeSt.cases (h : TubeSt n t b0 bs b) : (bs = [] ∧ b = b0) ∨ ∃ cs c, bs = cs ++ [c] ∧ TubeSt n t b0 cs c ∧ c.1 < tot n.fx n.r ∧ cs.length < 240 ∧ St3 n (t + cs.length) c ∧ NbOk (n.nb (t + cs.length)) c b := by
  cases h with
  | nil => exact .inl ⟨rfl, rfl⟩
  | snoc h lt len ok nx => exact .inr ⟨_, _, rfl, h, lt, len, ok, nx⟩
theorem TubeSt.uniq : ∀ (m : Nat) {bs bs' : List B4} {b b' : B4}, bs.length = m → bs'.length = m → TubeSt n t b0 bs b → TubeSt n t b0 bs' b' → bs = bs' ∧ b = b'
  | 0, bs, bs', b, b', e, e', h, h' => by
    have z : bs = [] := List.length_eq_zero_iff.mp e
    have z' : bs' = [] := List.length_eq_zero_iff.mp e'
    exact ⟨by rw [z, z'], by rw [h.nil_eq z, h'.nil_eq z']⟩
  | m + 1, bs, bs', b, b', e, e', h, h' => by
    rcases h.cases with ⟨z, _⟩ | ⟨cs, c, e1, h1, _, _, _, nx⟩
    · rw [z] at e
      cases e
    rcases h'.cases with ⟨z, _⟩ | ⟨cs', c', e1', h1', _, _, _, nx'⟩
    · rw [z] at e'
      cases e'
    subst e1 e1'
    rw [List.length_append, List.length_singleton] at e e'
    obtain ⟨q1, q2⟩ := TubeSt.uniq m (by omega) (by omega) h1 h1'
    subst q1 q2
    exact ⟨rfl, nx.eq nx'⟩
theorem TubeSt.cut (h : TubeSt n t b0 bs b) : ∀ m, m < bs.length → ∃ cs c, cs.length = m ∧ TubeSt n t b0 cs c ∧ c.1 < tot n.fx n.r ∧ m < 240 ∧ St3 n (t + m) c := by
  induction h with
  | nil => intro m hm; exact absurd hm (Nat.not_lt_zero _)
  | @snoc cs c c' h lt len ok nx ih =>
    intro m hm
    rw [List.length_append, List.length_singleton] at hm
    by_cases z : m < cs.length
    · exact ih m z
    · have e : m = cs.length := by omega
      subst e
      exact ⟨cs, c, rfl, h, lt, len, ok⟩
theorem CodeAt.one {c c' : Str} (h : CodeAt n t b c) (h' : CodeAt n t b c') : c = c' := by
  rcases h with ⟨e, a1⟩ | ⟨e, a1, a2⟩ | ⟨e, a1, a2, a3⟩ <;> rcases h' with ⟨e', b1⟩ | ⟨e', b1, b2⟩ | ⟨e', b1, b2, b3⟩ <;> first | exact e.trans e'.symm | exact absurd b1 a1 | exact absurd a1 b1 | exact absurd b2 a2 | exact absurd a2 b2
theorem CodeAt.no {c : Str} (h : CodeAt n t b c) (h' : St3 n t b) : False := by
  obtain ⟨b1, b2, b3⟩ := h'
  rcases h with ⟨e, a1⟩ | ⟨e, a1, a2⟩ | ⟨e, a1, a2, a3⟩
  · exact a1 b1
  · exact a2 b2
  · exact a3 b3
theorem TubeOut.eq (h : TubeOut n t b0 bs) (h' : TubeOut n t b0 bs') : bs = bs' := by
  obtain ⟨_, b, hs, hb⟩ := h
  obtain ⟨_, b', hs', hb'⟩ := h'
  rcases Nat.lt_trichotomy bs.length bs'.length with z | z | z
  · obtain ⟨cs, c, e, h1, h2, _⟩ := hs'.cut _ z
    have := (TubeSt.uniq _ rfl e hs h1).2
    subst this
    omega
  · exact (TubeSt.uniq _ rfl z.symm hs hs').1
  · obtain ⟨cs, c, e, h1, h2, _⟩ := hs.cut _ z
    have := (TubeSt.uniq _ rfl e hs' h1).2
    subst this
    omega
theorem TubeErr.no {c : Str} {t' : Int} (h : TubeErr n t b0 c t') (h' : TubeOut n t b0 bs') : False := by
  obtain ⟨sp, b', hs', hb'⟩ := h'
  rcases h with ⟨_, _, z⟩ | ⟨_, bs, b, hs, lt, e, hc⟩
  · exact z sp
  rcases Nat.lt_trichotomy bs.length bs'.length with z | z | z
  · obtain ⟨cs, c2, e2, h1, h2, h3, h4⟩ := hs'.cut _ z
    have := (TubeSt.uniq _ rfl e2 hs h1).2
    subst this
    rcases hc with ⟨q, _⟩ | ⟨_, q⟩
    · omega
    · rw [e] at q
      exact q.no h4
  · have := (TubeSt.uniq _ rfl z.symm hs hs').2
    subst this
    omega
  · obtain ⟨cs, c2, e2, h1, h2, _⟩ := hs.cut _ z
    have := (TubeSt.uniq _ rfl e2 hs' h1).2
    subst this
    omega
theorem TubeErr.eq {c c' : Str} {t1 t2 : Int} (h : TubeErr n t b0 c t1) (h' : TubeErr n t b0 c' t2) : c = c' ∧ t1 = t2 := by
  rcases h with ⟨e1, e2, z⟩ | ⟨sp, bs, b, hs, lt, e, hc⟩
  · rcases h' with ⟨e1', e2', _⟩ | ⟨sp', _⟩
    · exact ⟨by rw [e1, e1'], by rw [e2, e2']⟩
    · exact absurd sp' z
  rcases h' with ⟨_, _, z'⟩ | ⟨_, bs', b', hs', lt', e', hc'⟩
  · exact absurd sp z'
  rcases Nat.lt_trichotomy bs.length bs'.length with z | z | z
  · exfalso
    obtain ⟨cs, c2, e2, h1, h2, h3, h4⟩ := hs'.cut _ z
    have := (TubeSt.uniq _ rfl e2 hs h1).2
    subst this
    rcases hc with ⟨q, _⟩ | ⟨_, q⟩
    · omega
    · rw [e] at q
      exact q.no h4
  · obtain ⟨q1, q2⟩ := TubeSt.uniq _ rfl z.symm hs hs'
    subst q1 q2
    have et : t1 = t2 := by rw [e, e']
    subst et
    refine ⟨?_, rfl⟩
    rcases hc with ⟨q, r⟩ | ⟨q, r⟩ <;> rcases hc' with ⟨q', r'⟩ | ⟨q', r'⟩
    · rw [r, r']
    · omega
    · omega
    · exact r.one r'
  · exfalso
    obtain ⟨cs, c2, e2, h1, h2, h3, h4⟩ := hs.cut _ z
    have := (TubeSt.uniq _ rfl e2 hs' h1).2
    subst this
    rcases hc' with ⟨q, _⟩ | ⟨_, q⟩
    · omega
    · rw [e'] at q
      exact q.no h4
theorem CodeAt.so {c : Str} (h : CodeAt n t b c) : PyData.strOk c = true := by
  rcases h with ⟨e, _⟩ | ⟨e, _⟩ | ⟨e, _⟩ <;> rw [e] <;> decide +kernel
theorem TubeErr.so {c : Str} {t' : Int} (h : TubeErr n t b0 c t') : PyData.strOk c = true := by
  rcases h with ⟨e, _⟩ | ⟨_, bs, b, _, _, _, ⟨_, e⟩ | ⟨_, hc⟩⟩
  · rw [e]
    decide +kernel
  · rw [e]
    decide +kernel
  · exact hc.so
end MP
set_option Elab.async false
set_option linter.all false
set_option maxRecDepth 100000
set_option maxHeartbeats 4100000
/-! TuO: windows of lists of one's own (k13). -/
namespace Law
open PySem L2 Evl Sk MP M10
local macro_rules | `(tactic| walk_at "sc") => `(tactic| first | omega | assumption | (with_reducible exact mulOk) | (with_reducible exact smOk) | (with_reducible exact ⟨by decide, smOk⟩) | decide | (simp only [List.length_cons, List.length_nil]; decide) | exact divOk (by omega))
section
variable {P : Program} {w : World} {K : PySem.W.Frag} {mg : Str → Option Value} {base : Heap}
abbrev WoA := PR × Int × Addr × List B4
abbrev sp_windowO (C : Addr) (K : Fg) : Sp := sp1 K [] (fCons (rPath C) (fCons rInt (fOne (rGh (β := List B4))))) (fun x : WoA => RtV x.1.1 x.1.2) (fun x => ⟨x.2.2.1, oLst rB4, x.2.2.2⟩) rPr fun x y => y = win (tot (fxOf x.1.1) x.1.2) x.2.1 x.2.2.2
theorem ok_windowO (N : Nm K mg) (T : Bt mg) : FnOk P w K mg base CX0 2 N.window.f N.window.fd ["path", "tick", "boxes"] (sp_windowO N.cPath K) := by
  refine fn_m N.window.F sc_window [] fun cdv A outer s G H E x Q fam hp hk => ?_
  obtain ⟨⟨ch, r⟩, t, qb, bs⟩ := x
  have hr : RtV ch r := hp
  have hk' : ∀ {Γ : Gm} {y : Int × Int}, y = (winE (tot (fxOf ch) r) t bs, t + (bs.length : Int)) → RT K ⟨[], _, G, H, []⟩ Γ [⟨qb, oLst rB4, bs⟩] rPr y _ := fun {Γ y} e => hk ⟨rfl, e⟩
  clear hk
  show DS _ K ⟨[], _, G, H, []⟩ [some ⟨rPath N.cPath, (ch, r)⟩, some ⟨rInt, t⟩, some ⟨rGh, (qb, bs)⟩, none, none, none] [⟨qb, oLst rB4, bs⟩] (defBody s_window) _
  refine s_gh (β := List B4) 2 ?_
  dsimp only
  refine s_set 3 (d_bin (d_var (ra := rInt) (x := t) 1 (d_callB T.len bt_len (da_one (d_var 2 (c_lenG (o_add ?_)))))))
  refine s_forE (ra := rB4) (js := [4, 5]) T.enumerate (d_var 2 ⟨_, _, inferInstance, ?_⟩)
  refine ⟨Unit, fun i _ => winE (tot (fxOf ch) r) t bs = winE (tot (fxOf ch) r) (t + (i : Int)) (bs.drop i), fun _ => [some ⟨rPath N.cPath, (ch, r)⟩, some ⟨rInt, t⟩, some ⟨rAdr, qb⟩, some ⟨rInt, t + (bs.length : Int)⟩, none, none], fun _ => [⟨qb, oLst rB4, bs⟩], ⟨(), by simp, ⟨rfl, rfl, rfl, rfl, trivial⟩, rfl⟩, fun _ _ _ => List.mem_singleton_self _, fun g i b _ hb hd => (g_tup (gs_cons (g_name 4 (gs_one (g_name 5 ?_))))), fun _ hd => ?_⟩
  · have hdr : bs.drop i = b :: bs.drop (i + 1) := by
      have hlt := (List.getElem?_eq_some_iff.mp hb).1
      rw [List.drop_eq_getElem_cons hlt, (List.getElem?_eq_some_iff.mp hb).2]
    have hd : winE (tot (fxOf ch) r) t bs = winE (tot (fxOf ch) r) (t + (i : Int)) (bs.drop i) := hd
    rw [hdr] at hd
    dsimp only
    refine s_ifP (x := decide (b.2.1 ≥ tot (fxOf ch) r)) (dt_cmp (d_ix (d_var (ra := rB4) (x := b) 5 (d_int (i_tup 1 (d_meth0 N.kPath N.mPath_total (ok_Path_total N T) (d_var 0 ⟨_, inferInstance, (sw_f hr (o_ge ⟨rfl, rfl⟩))⟩))))))) (fun hc => ?_) (fun hc => ?_)
    · refine s_ret (d_tup (da_cons (d_bin (d_var (ra := rInt) (x := t) 1 (d_var (ra := rInt) (x := (i : Int)) 4 (o_add (da_one (d_var 3 (rt_in (hk' ?_))))))))))
      have hc := of_decide_eq_true hc
      rw [hd]
      unfold winE
      rw [if_pos hc]
    · refine s_out (s_next () ?_ ⟨rfl, rfl, rfl, rfl, trivial⟩ rfl)
      have hc := of_decide_eq_false hc
      show winE (tot (fxOf ch) r) t bs = winE (tot (fxOf ch) r) (t + ((i + 1 : Nat) : Int)) (bs.drop (i + 1))
      rw [hd, show t + ((i + 1 : Nat) : Int) = t + (i : Int) + 1 by omega]
      exact if_neg (by omega)
  · have hd : winE (tot (fxOf ch) r) t bs = winE (tot (fxOf ch) r) (t + (bs.length : Int)) (bs.drop bs.length) := hd
    rw [List.drop_length] at hd
    refine s_ret (d_tup (da_cons (d_var 3 (da_one (d_var 3 (hk' ?_))))))
    rw [hd]
    rfl
end
end Law
set_option Elab.async false
set_option linter.all false
set_option maxRecDepth 100000
set_option maxHeartbeats 4100000
set_option synthInstance.maxSize 4000
set_option synthInstance.maxHeartbeats 400000
/-! LnA: landings in plain Lean (k18). -/
namespace Law
open PySem L2 Evl Sk
abbrev Gap := List (List Int)
abbrev Arr := Int × Int × Int
abbrev Bf := Int × Int
abbrev Rk := Int × Int × List Int × List Int
abbrev rRow : Rp (List Int) := rTpv rInt
abbrev rGap : Rp Gap := rTpv rRow
abbrev rArr : Rp Arr := rTup (fCons rInt (fCons rInt (fOne rInt)))
abbrev rBf : Rp Bf := rTup (fCons rInt (fOne rInt))
abbrev rOrd : Rp (List Int) := rTpv rInt
abbrev rRk : Rp Rk := rTup (fCons rInt (fCons rInt (fCons rOrd (fOne rOrd))))
def gpV (g : Gap) (i j : Int) : Int := (g.getD i.toNat []).getD j.toNat 0
abbrev W4 (i : Int) : Prop := 0 ≤ i ∧ i < 4
structure GapOk (g : Gap) : Prop where
  l : g.length = 4
  r : ∀ row ∈ g, row.length = 4
theorem getD_at {α : Type} {xs : List α} {k : Nat} {d : α} (h : k < xs.length) : xs[k]? = some (xs.getD k d) := by
  rw [List.getD_eq_getElem?_getD, List.getElem?_eq_getElem h]
  rfl
theorem getD_mem' {α : Type} {xs : List α} {k : Nat} {d : α} (h : k < xs.length) : xs.getD k d ∈ xs := List.mem_of_getElem? (getD_at h)
theorem gap_row {g : Gap} (hg : GapOk g) {i : Int} (hi : W4 i) : atI g i = some (g.getD i.toNat []) := atI_int hi.1 (getD_at (by rw [hg.l]; omega))
theorem gap_at {g : Gap} (hg : GapOk g) {i j : Int} (hi : W4 i) (hj : W4 j) : atI (g.getD i.toNat []) j = some (gpV g i j) :=
  atI_int hj.1 (getD_at (by rw [hg.r _ (getD_mem' (by rw [hg.l]; omega))]; omega))
def ltV (g : Gap) (a : Arr) (b : List Bf) : Int := (b.map fun p => p.2 + gpV g p.1 a.1).foldl max a.2.1
theorem lt_one {g : Gap} {a : Arr} {b : List Bf} {m : Int} (h1 : m ∈ [a.2.1] ++ b.map fun p : Bf => p.2 + gpV g p.1 a.1) (h2 : ∀ y ∈ [a.2.1] ++ b.map fun p : Bf => p.2 + gpV g p.1 a.1, y ≤ m) : m = ltV g a b := by
  obtain ⟨k1, k2⟩ := foldl_max_mem (b.map fun p : Bf => p.2 + gpV g p.1 a.1) a.2.1
  have := h2 _ k1
  have := k2 _ h1
  unfold ltV
  omega
abbrev arV (as : List Arr) (i : Int) : Arr := as.getD i.toNat (0, 0, 0)
abbrev stepB (g : Gap) (as : List Arr) (b : List Bf) (i : Int) : List Bf := b ++ [((arV as i).1, ltV g (arV as i) b)]
def befV (g : Gap) (as : List Arr) (o : List Int) : List Bf := o.foldl (stepB g as) []
def tkV (g : Gap) (as : List Arr) (o : List Int) : List Int := (befV g as o).map (·.2)
theorem bef_snoc (g : Gap) (as : List Arr) (o : List Int) (i : Int) : befV g as (o ++ [i]) = befV g as o ++ [((arV as i).1, ltV g (arV as i) (befV g as o))] := by
  unfold befV
  rw [List.foldl_append]
  rfl
theorem tk_snoc (g : Gap) (as : List Arr) (o : List Int) (i : Int) : tkV g as (o ++ [i]) = tkV g as o ++ [ltV g (arV as i) (befV g as o)] := by
  unfold tkV
  rw [bef_snoc, List.map_append]
  rfl
theorem snoc_rec {α : Type} {P : List α → Prop} (h0 : P []) (h1 : ∀ l x, P l → P (l ++ [x])) : ∀ l, P l := fun l => by
  have : ∀ l : List α, P l.reverse := fun l => by
    induction l with
    | nil => exact h0
    | cons x l ih => rw [List.reverse_cons]; exact h1 _ _ ih
  rw [← List.reverse_reverse l]
  exact this _
theorem bef_len (g : Gap) (as : List Arr) (o : List Int) : (befV g as o).length = o.length := by
  refine snoc_rec (P := fun o => (befV g as o).length = o.length) rfl (fun l x h => ?_) o
  rw [bef_snoc, List.length_append, List.length_append, h]
  rfl
theorem tk_len (g : Gap) (as : List Arr) (o : List Int) : (tkV g as o).length = o.length := by
  unfold tkV
  rw [List.length_map, bef_len]
/-- an arrival is right -/
structure ArrOk (a : Arr) : Prop where
  w : W4 a.1
  t : 0 ≤ a.2.1
abbrev InR (n : Nat) (i : Int) : Prop := 0 ≤ i ∧ i < (n : Int)
theorem arr_at {as : List Arr} {i : Int} (h : InR as.length i) : atI as i = some (arV as i) := atI_int h.1 (getD_at (by omega))
theorem arr_mem {as : List Arr} {i : Int} (h : InR as.length i) : arV as i ∈ as := getD_mem' (by omega)
theorem bef_ok (g : Gap) {as : List Arr} (ha : ∀ a ∈ as, ArrOk a) {o : List Int} (ho : ∀ i ∈ o, InR as.length i) : ∀ b ∈ befV g as o, W4 b.1 := by
  revert ho
  refine snoc_rec (P := fun o => (∀ i ∈ o, InR as.length i) → ∀ b ∈ befV g as o, W4 b.1) (fun _ b hb => absurd hb List.not_mem_nil) (fun l x h ho b hb => ?_) o
  rw [bef_snoc] at hb
  rcases List.mem_append.mp hb with z | z
  · exact h (fun i hi => ho i (List.mem_append_left _ hi)) b z
  · rw [List.mem_singleton.mp z]
    exact (ha _ (arr_mem (ho x (List.mem_append_right _ (List.mem_singleton.mpr rfl))))).w
end Law
set_option Elab.async false
set_option linter.all false
set_option maxRecDepth 100000
set_option maxHeartbeats 4100000
set_option synthInstance.maxSize 4000
set_option synthInstance.maxHeartbeats 400000
/-! LnB: landings walked (k18). -/
namespace Law
open PySem L2 Evl Sk
local macro_rules | `(tactic| walk_at "sc") => `(tactic| first | omega | assumption | trivial | (with_reducible exact mulOk) | (with_reducible exact smOk) | (with_reducible exact ⟨by decide, smOk⟩) | (with_reducible exact ⟨by omega, smOk⟩) | decide | rfl | (simp only [List.length_cons, List.length_nil]; decide) | exact divOk (by omega))
section
variable {P : Program} {w : World} {K : PySem.W.Frag} {mg : Str → Option Value} {base : Heap}
abbrev N_landing_tick : List Str := ["gaps", "arrival", "before", "wake", "ready", "_", "other", "tick"]
theorem sc_landing_tick : FnScope N_landing_tick ["gaps", "arrival", "before"] (defScope s_landing_tick) := ⟨rfl, rfl, rfl, by decide +kernel, rfl, by decide +kernel, by decide +kernel⟩
abbrev sp_landing_tick (K : Fg) : Sp := spF K [] (fCons rGap (fCons rArr (fOne (rLst rBf)))) (fun x => (GapOk x.1 ∧ W4 x.2.1.1) ∧ x.2.2.length ≤ 1000 ∧ ∀ b ∈ x.2.2, W4 b.1) rInt fun x => ltV x.1 x.2.1 x.2.2
theorem ok_landing_tick (N : Nm K mg) (T : Bt mg) : FnOk P w K mg base CX0 1 N.landing_tick.f N.landing_tick.fd ["gaps", "arrival", "before"] (sp_landing_tick K) := by
  refine fn_m N.landing_tick.F sc_landing_tick [] fun cdv A outer s G H E x Q fam hp hk => ?_
  obtain ⟨g, ⟨wk, rd, ls⟩, bf⟩ := x
  obtain ⟨⟨hg, hw⟩, hl, hb⟩ := hp
  dsimp only at hg hw hl hb
  have z1 : 100000 ≤ sizeLine := by decide
  show DS _ K ⟨[], _, G, H, []⟩ [some ⟨rGap, g⟩, some ⟨rArr, (wk, rd, ls)⟩, some ⟨(rLst rBf), bf⟩, none, none, none, none, none] _ (defBody s_landing_tick) _
  refine s_asg (d_var 1 (g_tup (gs_cons (g_name 3 (gs_cons (g_name 4 (gs_one (g_name 5 ?_))))))))
  dsimp only
  refine s_ret (d_callB T.max bt_max (da_one (d_bin (d_lst (ra := rInt) (da_all (d_var (ra := rInt) (x := rd) 4 (da_all0 ⟨(by walk_at "sc"), (d_lcP (js := [6, 7]) (ra := rBf) (rb := rInt) (f := fun p : Bf => p.2 + gpV g p.1 wk) [("other", 6), ("tick", 7)] [6, 7] (fun _ => blkOk_by (N := N_landing_tick) (sc := defScope s_landing_tick) (by decide +kernel)) (w_lst (d_var 2 ⟨rfl, (by omega), fun gg D ys p hpm => ?_, o_cat ?_ (c_maxL ?_ (fun m hm1 hm2 => ?_))⟩)))⟩)))))))
  · obtain ⟨p1, p2⟩ := p
    have hp1 : W4 p1 := hb _ hpm
    refine g_tup (gs_cons (g_name 6 (gs_one (g_name 7 (d_bin (d_var (ra := rInt) (x := p2) 7 (d_ix (d_ix (d_var 0 (d_var (ra := rInt) (x := p1) 6 (i_tpv (gap_row hg hp1) (d_var (ra := rInt) (x := wk) 3 (i_tpv (gap_at hg hp1 hw) (o_add ⟨rfl, rfl⟩))))))))))))))
  · rw [List.length_map]
    show 1 + bf.length ≤ sizeLine
    omega
  · rw [List.length_append]
    show 0 < 1 + _
    omega
  · exact hk ⟨rfl, lt_one hm1 hm2⟩
end
end Law
set_option Elab.async false
set_option linter.all false
set_option maxRecDepth 100000
set_option maxHeartbeats 4100000
set_option synthInstance.maxSize 4000
set_option synthInstance.maxHeartbeats 400000
/-! LnC: positions, ranks, the search in plain Lean (k18). -/
namespace Law
open PySem L2 Evl Sk
abbrev eBf : Bf → PyData := fun x => .tuple [.int x.1, .int x.2]
abbrev eRk : Rk → PyData := fun x => .tuple [.int x.1, .int x.2.1, .tuple (x.2.2.1.map .int), .tuple (x.2.2.2.map .int)]
def prsV (as : List Arr) : List Bf := (enm as).map fun p : Int × Arr => (p.2.2.1, p.1)
def rnkV (as : List Arr) : List Bf := (prsV as).mergeSort (PySem.W.dataLe false eBf)
abbrev kyV (as : List Arr) (i : Int) : Bf := ((arV as i).2.1, i)
/-- the first place of a pair (== by the decision of =) -/
abbrev ixB (xs : List Bf) (y : Bf) : Nat := @List.idxOf Bf instBEqOfDecidableEq y xs
theorem ix_lt {xs : List Bf} {y : Bf} (h : y ∈ xs) : ixB xs y < xs.length := @List.idxOf_lt_length_of_mem _ _ instBEqOfDecidableEq inferInstance _ h
theorem ix_get {xs : List Bf} {y : Bf} (h : ixB xs y < xs.length) : xs[ixB xs y] = y := @List.getElem_idxOf _ instBEqOfDecidableEq inferInstance _ _ h
def posI (as : List Arr) (i : Int) : Int := ((ixB (rnkV as) (kyV as i) : Nat) : Int)
def psV (as : List Arr) : List Int := (List.range as.length).map fun i : Nat => posI as (i : Int)
theorem prs_get {as : List Arr} {i : Nat} {p : Bf} : (prsV as)[i]? = some p ↔ i < as.length ∧ p = kyV as (i : Int) := by
  unfold prsV
  rw [List.getElem?_map, Option.map_eq_some_iff]
  constructor
  · rintro ⟨z, h, e⟩
    obtain ⟨a, h1, h2⟩ := enm_get.mp h
    have hl := (List.getElem?_eq_some_iff.mp h1).1
    refine ⟨hl, ?_⟩
    rw [← e, h2]
    have : arV as (i : Int) = a := by
      show as.getD ((i : Int)).toNat (0, 0, 0) = a
      rw [Int.toNat_natCast, List.getD_eq_getElem?_getD, h1]
      rfl
    rw [kyV, this]
  · rintro ⟨hl, e⟩
    refine ⟨((i : Int), arV as (i : Int)), enm_get.mpr ⟨arV as (i : Int), ?_, rfl⟩, e.symm⟩
    show as[i]? = some (as.getD ((i : Int)).toNat (0, 0, 0))
    rw [Int.toNat_natCast]
    exact getD_at hl
theorem prs_len (as : List Arr) : (prsV as).length = as.length := by
  unfold prsV
  rw [List.length_map, enm_len]
theorem prs_nodup (as : List Arr) : (prsV as).Nodup := by
  unfold List.Nodup
  rw [List.pairwise_iff_getElem]
  intro i j hi hj hij e
  have h1 := (prs_get.mp (List.getElem?_eq_getElem hi)).2
  have h2 := (prs_get.mp (List.getElem?_eq_getElem hj)).2
  rw [h1, h2] at e
  have := congrArg Prod.snd e
  dsimp only at this
  omega
theorem rnk_perm (as : List Arr) : (rnkV as).Perm (prsV as) := List.mergeSort_perm _ _
theorem rnk_nodup (as : List Arr) : (rnkV as).Nodup := (rnk_perm as).nodup_iff.mpr (prs_nodup as)
theorem rnk_len (as : List Arr) : (rnkV as).length = as.length := by rw [(rnk_perm as).length_eq, prs_len]
theorem rnk_mem {as : List Arr} {p : Bf} : p ∈ rnkV as ↔ InR as.length p.2 ∧ p = kyV as p.2 := by
  rw [(rnk_perm as).mem_iff]
  constructor
  · intro h
    obtain ⟨i, hi⟩ := List.getElem?_of_mem h
    obtain ⟨h1, h2⟩ := prs_get.mp hi
    rw [h2]
    exact ⟨⟨by dsimp only; omega, by dsimp only; omega⟩, rfl⟩
  · rintro ⟨⟨h0, h1⟩, h2⟩
    refine List.mem_of_getElem? (i := p.2.toNat) (prs_get.mpr ⟨by omega, ?_⟩)
    rw [show ((p.2.toNat : Nat) : Int) = p.2 by omega]
    exact h2
theorem rnk_at {as : List Arr} {i : Int} (h : InR as.length i) : (rnkV as)[ixB (rnkV as) (kyV as i)]? = some (kyV as i) ∧ ixB (rnkV as) (kyV as i) < as.length := by
  have hm : kyV as i ∈ rnkV as := rnk_mem.mpr ⟨h, rfl⟩
  have hl : ixB (rnkV as) (kyV as i) < (rnkV as).length := ix_lt hm
  exact ⟨by rw [List.getElem?_eq_getElem hl]; exact congrArg some (ix_get hl), by rw [← rnk_len]; exact hl⟩
theorem ps_len (as : List Arr) : (psV as).length = as.length := by
  unfold psV
  rw [List.length_map, List.length_range]
theorem ps_at {as : List Arr} {i : Int} (h : InR as.length i) : atI (psV as) i = some (posI as i) := by
  refine atI_int h.1 ?_
  unfold psV
  rw [List.getElem?_map, List.getElem?_range (by omega)]
  show some (posI as ((i.toNat : Nat) : Int)) = _
  rw [show ((i.toNat : Nat) : Int) = i by omega]
theorem ps_done {as : List Arr} {d : List Int} (hl : d.length = as.length) (h : ∀ (j : Nat) (p : Bf), (rnkV as)[j]? = some p → d[p.2.toNat]? = some (j : Int)) : d = psV as := by
  refine List.ext_getElem? fun i => ?_
  by_cases hi : i < as.length
  · have hr : InR as.length (i : Int) := ⟨by omega, by omega⟩
    have e := h _ _ (rnk_at hr).1
    dsimp only at e
    rw [Int.toNat_natCast] at e
    rw [e]
    unfold psV
    rw [List.getElem?_map, List.getElem?_range hi]
    rfl
  · rw [List.getElem?_eq_none (by omega), List.getElem?_eq_none (by rw [ps_len]; omega)]
def mx0 (ts : List Int) : Int := ts.foldl max 0
def rkV (g : Gap) (as : List Arr) (o : List Int) : Rk := (mx0 (tkV g as o), (tkV g as o).sum, o, tkV g as o)
def ltR (x y : Rk) : Bool := PySem.W.dataLt (eRk x) (eRk y)
def wrs (b : Option Rk) (t : Int) : Bool := match b with
  | some x => decide (t > x.1)
  | none => false
def updB (b : Option Rk) (r : Rk) : Option Rk := match b with
  | none => some r
  | some x => if ltR r x = true then some r else some x
abbrev absV (x : Int) : Int := if x < 0 then -x else x
def skp (as : List Arr) (sh : Int) (o : List Int) (i : Int) : Bool := decide (i ∈ o) || decide (absV (posI as i - (o.length : Int)) > sh)
def grV (g : Gap) (as : List Arr) (sh : Int) : Nat → List Int → Option Rk → Option Rk
  | 0, o, b => updB b (rkV g as o)
  | m + 1, o, b => (List.range as.length).foldl (fun b (i : Nat) => if skp as sh o (i : Int) = true then b else
      if (decide (ltV g (arV as (i : Int)) (befV g as o) ≤ (arV as (i : Int)).2.2) && !wrs b (ltV g (arV as (i : Int)) (befV g as o))) = true then grV g as sh m (o ++ [(i : Int)]) b else b) b
theorem fold_ge : ∀ (xs : List Int) (n : Int), n ≤ xs.foldl max n
  | [], n => Int.le_refl n
  | x :: xs, n => by
    have := fold_ge xs (max n x)
    show n ≤ xs.foldl max (max n x)
    omega
theorem lt_ge (g : Gap) (a : Arr) (b : List Bf) : a.2.1 ≤ ltV g a b := fold_ge _ _
theorem tk_pos (g : Gap) {as : List Arr} (ha : ∀ a ∈ as, ArrOk a) {o : List Int} (ho : ∀ i ∈ o, InR as.length i) : ∀ t ∈ tkV g as o, 0 ≤ t := by
  revert ho
  refine snoc_rec (P := fun o => (∀ i ∈ o, InR as.length i) → ∀ t ∈ tkV g as o, 0 ≤ t) (fun _ b hb => absurd hb List.not_mem_nil) (fun l x h ho t ht => ?_) o
  rw [tk_snoc] at ht
  rcases List.mem_append.mp ht with z | z
  · exact h (fun i hi => ho i (List.mem_append_left _ hi)) t z
  · rw [List.mem_singleton.mp z]
    have h1 := (ha _ (arr_mem (ho x (List.mem_append_right _ (List.mem_singleton.mpr rfl))))).t
    have h2 := lt_ge g (arV as x) (befV g as l)
    omega
theorem mx0_one {ts : List Int} (hp : ∀ t ∈ ts, 0 ≤ t) {m : Int} (h0 : ts = [] → m = 0) (h1 : ts ≠ [] → m ∈ ts ∧ ∀ y ∈ ts, y ≤ m) : m = mx0 ts := by
  obtain ⟨k1, k2⟩ := foldl_max_mem ts 0
  by_cases e : ts = []
  · rw [h0 e, e]; rfl
  · obtain ⟨a1, a2⟩ := h1 e
    have b1 := k2 m (List.mem_cons_of_mem _ a1)
    have b2 := hp m a1
    show m = ts.foldl max 0
    rcases List.mem_cons.mp k1 with z | z
    · rw [z] at b1 ⊢; omega
    · have := a2 _ z; omega
end Law
set_option Elab.async false
set_option linter.all false
set_option maxRecDepth 100000
set_option maxHeartbeats 4100000
set_option synthInstance.maxSize 4000
set_option synthInstance.maxHeartbeats 400000
/-! LnD: the search, walked (k18). -/
namespace Law
open PySem L2 Evl Sk
local macro_rules | `(tactic| walk_at "sc") => `(tactic| first | omega | assumption | trivial | (with_reducible exact mulOk) | (with_reducible exact smOk) | (with_reducible exact ⟨by decide, smOk⟩) | (with_reducible exact ⟨by omega, smOk⟩) | decide | rfl | (simp only [List.length_cons, List.length_nil]; decide) | exact divOk (by omega))
theorem ns_Search_nd : ns_Search.Nodup := by decide +kernel
abbrev Se := Gap × List Arr × Int × Option Rk
abbrev SeT := (((((Unit × Gap) × List Arr) × Int) × List Int) × Option Rk)
abbrev SF : RpF SeT := fApp (fApp (fApp (fApp (fApp fNil rGap) (rLst rArr)) rInt) (rLst rInt)) (rOpt rRk)
abbrev mkSe (g : Gap) (as : List Arr) (sh : Int) (b : Option Rk) : SeT := ((((((), g), as), sh), psV as), b)
abbrev oSe (C : Addr) : Ow SeT := oIns C ns_Search SF
abbrev sOwn (C : Addr) (x : Addr × Se) : Own := ⟨x.1, oSe C, mkSe x.2.1 x.2.2.1 x.2.2.2.1 x.2.2.2.2⟩
instance insGh {O : List Own} {C : Addr} {ns : List Str} {β δ : Type} {f : RpF β} {q : Addr} {y : β} {b : δ} {g : Own → List Own} [h : OwnAt O q (oIns C ns f) y g] : InsR O (rGh (β := δ)) (q, b) C ns f y := ⟨fun W e => by
  obtain ⟨o, h1, dx, vs, h2, h3, h4⟩ := W.ownO h
  subst h2
  exact ⟨q, dx, vs, e, h1, h3, h4⟩⟩
theorem opt_get {α : Type} {r : Rp α} {c : α} : ∀ {K : Fg} {G : Hp} {v : V}, (rOpt r).rep K G v (some c) → r.rep K G v c := fun h => h.2
section
variable {P : Program} {w : World} {K : PySem.W.Frag} {mg : Str → Option Value} {base : Heap}
abbrev sp_natural_positions (K : Fg) : Sp := spF K [] (fOne (rLst rArr)) (fun as => as.length ≤ 1000) (rLst rInt) psV
abbrev N_natural_positions : List Str := ["arrivals", "ranked", "positions", "position", "_", "index", "arrival"]
theorem sc_natural_positions : FnScope N_natural_positions ["arrivals"] (defScope s_natural_positions) := ⟨rfl, rfl, rfl, by decide +kernel, rfl, by decide +kernel, by decide +kernel⟩
theorem ok_natural_positions (N : Nm K mg) (T : Bt mg) : FnOk P w K mg base CX0 1 N.natural_positions.f N.natural_positions.fd ["arrivals"] (sp_natural_positions K) := by
  refine fn_m N.natural_positions.F sc_natural_positions [] fun cdv A outer s G H E as Q fam hp hk => ?_
  have hp : as.length ≤ 1000 := hp
  have z1 : 100000 ≤ sizeLine := by decide
  show DS _ K ⟨[], _, G, H, []⟩ [some ⟨(rLst rArr), as⟩, none, none, none, none, none, none] [] (defBody s_natural_positions) _
  refine s_set 1 (d_callB T.sorted bt_sorted (da_one (d_lcP (js := [5, 6]) (ra := rTup (fCons rInt (fOne rArr))) (rb := rBf) (f := fun p : Int × Arr => (p.2.2.1, p.1)) [("index", 5), ("arrival", 6)] [5, 6] (fun _ => blkOk_by (N := N_natural_positions) (sc := defScope s_natural_positions) (by decide +kernel)) (w_enum T.enumerate (d_var 0 ⟨rfl, (by rw [enm_len]; omega), fun gg D ys p hpm => ?_, c_sortX ?_⟩)))))
  · obtain ⟨p1, p2⟩ := p
    refine g_tup (gs_cons (g_name 5 (gs_one (g_name 6 ?_))))
    refine d_tup (da_cons (d_ix (d_var (ra := rArr) (x := p2) 6 (d_int (i_tup 1 (da_one (d_var (ra := rInt) (x := p1) 5 ⟨rfl, rfl⟩)))))))
  show DS _ K ⟨[], _, G, H, []⟩ [some ⟨(rLst rArr), as⟩, some ⟨rLst rBf, rnkV as⟩, none, none, none, none, none] [] _ _
  refine s_set 2 (d_bin (d_lst (ra := rInt) (da_all (d_int (da_all0 ⟨(by walk_at "sc"), (d_callB T.len bt_len (da_one (d_var 0 (c_lenL (o_repO (by omega) (by omega) ?_ (fun q hq => ?_))))))⟩)))))
  · rw [Int.toNat_natCast]
    show 1 * as.length ≤ sizeLine
    omega
  rw [Int.toNat_natCast]
  have hl0 : ((List.replicate as.length [(0 : Int)]).flatten).length = as.length := by
    rw [List.length_flatten, List.map_replicate, List.sum_replicate_nat]
    show as.length * 1 = _
    omega
  generalize (List.replicate as.length [(0 : Int)]).flatten = d0 at hl0
  refine s_for (js := [3, 4, 5]) (w_enum T.enumerate (d_var 1 ?_))
  refine ⟨List Int, fun k d => d.length = as.length ∧ ∀ (j : Nat) (p : Bf), j < k → (rnkV as)[j]? = some p → d[p.2.toNat]? = some (j : Int), fun _ => [some ⟨(rLst rArr), as⟩, some ⟨rLst rBf, rnkV as⟩, some ⟨rAdr, q⟩, none, none, none, none], fun d => [⟨q, oLst rInt, d⟩], ⟨d0, ⟨hl0, fun j p h => absurd h (Nat.not_lt_zero _)⟩, ⟨rfl, rfl, rfl, trivial⟩, rfl⟩, fun gg k z d hx hd => ?_, fun d hd => ?_⟩
  · obtain ⟨p, h1, h2⟩ := enm_get.mp hx
    subst h2
    obtain ⟨hd1, hd2⟩ := hd
    obtain ⟨hpr, hpe⟩ := rnk_mem.mp (List.mem_of_getElem? h1)
    obtain ⟨p1, p2⟩ := p
    refine g_tup (gs_cons (g_name 3 (gs_one (g_tup (gs_cons (g_name 4 (gs_one (g_name 5 ?_))))))))
    dsimp only at hpr hpe ⊢
    refine s_setI (rc := rInt) (d_var (ra := rInt) (x := (k : Int)) 3 (d_var (ra := rAdr) (x := q) 2 (d_var (ra := rInt) (x := p2) 5 ⟨_, _, inferInstance, ⟨hpr.1, by rw [hd1]; exact hpr.2⟩, ?_⟩)))
    refine s_next _ ⟨by rw [List.length_set]; exact hd1, fun j r hj hr => ?_⟩ ⟨rfl, rfl, rfl, trivial⟩ rfl
    by_cases e : j = k
    · subst e
      rw [h1] at hr
      have e2 := Option.some.inj hr
      subst e2
      rw [List.getElem?_set_self (by omega)]
    · have hne : r.2.toNat ≠ p2.toNat := fun e2 => by
        obtain ⟨r1, r2⟩ := rnk_mem.mp (List.mem_of_getElem? hr)
        have e3 : r.2 = p2 := by omega
        have e4 : r = (p1, p2) := by rw [r2, e3, ← hpe]
        have g1 := (List.getElem?_eq_some_iff.mp h1)
        have g2 := (List.getElem?_eq_some_iff.mp hr)
        obtain ⟨l1, g1⟩ := g1
        obtain ⟨l2, g2⟩ := g2
        rw [e4, ← g1] at g2
        exact e ((List.getElem_inj (rnk_nodup as)).mp g2)
      rw [List.getElem?_set_ne (Ne.symm hne)]
      exact hd2 j r (by omega) hr
  · obtain ⟨hd1, hd2⟩ := hd
    have e := ps_done hd1 fun j p h => hd2 j p (by rw [enm_len]; exact (List.getElem?_eq_some_iff.mp h).1) h
    subst e
    refine s_frz 2 hq ?_
    exact s_ret (d_var (ra := rLst rInt) (x := psV as) 2 (hk ⟨rfl, rfl⟩))
end
end Law
set_option Elab.async false
set_option linter.all false
set_option maxRecDepth 100000
set_option maxHeartbeats 4100000
set_option synthInstance.maxSize 4000
set_option synthInstance.maxHeartbeats 400000
/-! LnE: the search grows, walked (k18). -/
namespace Law
open PySem L2 Evl Sk
local macro_rules | `(tactic| walk_at "sc") => `(tactic| first | omega | assumption | trivial | (with_reducible exact mulOk) | (with_reducible exact smOk) | (with_reducible exact ⟨by decide, smOk⟩) | (with_reducible exact ⟨by omega, smOk⟩) | decide | rfl | (simp only [List.length_cons, List.length_nil]; decide) | exact divOk (by omega))
structure GrOk (m : Nat) (g : Gap) (as : List Arr) (o : List Int) (bf : List Bf) : Prop where
  hg : GapOk g
  ha : ∀ a ∈ as, ArrOk a
  hl : as.length ≤ 10
  hm : o.length + m = as.length
  ho : ∀ i ∈ o, InR as.length i
  hb : bf = befV g as o
section
variable {P : Program} {w : World} {K : PySem.W.Frag} {mg : Str → Option Value} {base : Heap}
abbrev sp_Search_init (C : Addr) (K : Fg) : Sp := spM K [] (fCons rAdr (fCons rGap (fCons (rLst rArr) (fOne rInt)))) (fun x => x.2.2.1.length ≤ 1000) (fun x => [⟨x.1, oNew C, ()⟩]) rNon fun x _ O' => O' = [sOwn C (x.1, x.2.1, x.2.2.1, x.2.2.2, none)]
abbrev N_Search_init : List Str := ["self", "gaps", "arrivals", "shift"]
theorem sc_Search_init : FnScope N_Search_init ["self", "gaps", "arrivals", "shift"] (defScope s_Search_init) := ⟨rfl, rfl, rfl, by decide +kernel, rfl, by decide +kernel, by decide +kernel⟩
theorem ok_Search_init (N : Nm K mg) (T : Bt mg) : FnOk P w K mg base CX0 2 N.iSearch.f N.iSearch.fd ["self", "gaps", "arrivals", "shift"] (sp_Search_init N.cSearch K) := by
  refine fn_m N.iSearch.F sc_Search_init [] fun cdv A outer s G H E x Q fam hp hk => ?_
  obtain ⟨p, g, as, sh⟩ := x
  show DS _ K ⟨[], _, G, H, []⟩ [some ⟨rAdr, p⟩, some ⟨rGap, g⟩, some ⟨rLst rArr, as⟩, some ⟨rInt, sh⟩] [⟨p, oNew N.cSearch, ()⟩] (defBody s_Search_init) _
  refine s_fldN (N.kSearch.sub (by decide)) (d_var 1 (d_var 0 ⟨_, _, inferInstance, ?_⟩))
  refine s_fldN (N.kSearch.sub (by decide)) (d_var 2 (d_var 0 ⟨_, _, inferInstance, ?_⟩))
  refine s_fldN (N.kSearch.sub (by decide)) (d_var 3 (d_var 0 ⟨_, _, inferInstance, ?_⟩))
  refine s_fldN (N.kSearch.sub (by decide)) (d_call N.natural_positions (ok_natural_positions N T) (da_one (d_var 2 (sw_f hp (d_var 0 ⟨_, _, inferInstance, ?_⟩)))))
  refine s_fldN (N.kSearch.sub (by decide)) (d_none (ra := rRk) (d_var 0 ⟨_, _, inferInstance, ?_⟩))
  exact s_fall (hk rfl)
abbrev sp_Search_is_worse (C : Addr) (K : Fg) : Sp := sp1 K [] (fCons (rGh (β := Se)) (fOne rInt)) (fun _ => True) (fun x => sOwn C x.1) rBool fun x y => y = wrs x.1.2.2.2.2 x.2
abbrev N_Search_is_worse : List Str := ["self", "tick"]
theorem sc_Search_is_worse : FnScope N_Search_is_worse ["self", "tick"] (defScope s_Search_is_worse) := ⟨rfl, rfl, rfl, by decide +kernel, rfl, by decide +kernel, by decide +kernel⟩
theorem ok_Search_is_worse (N : Nm K mg) (T : Bt mg) : FnOk P w K mg base CX0 1 N.mSearch_is_worse.f N.mSearch_is_worse.fd ["self", "tick"] (sp_Search_is_worse N.cSearch K) := by
  refine fn_m N.mSearch_is_worse.F sc_Search_is_worse [] fun cdv A outer s G H E x Q fam hp hk => ?_
  obtain ⟨⟨p, g, as, sh, b⟩, t⟩ := x
  show DS _ K ⟨[], _, G, H, []⟩ [some ⟨rGh (β := Se), (p, g, as, sh, b)⟩, some ⟨rInt, t⟩] [⟨p, oSe N.cSearch, mkSe g as sh b⟩] (defBody s_Search_is_worse) _
  refine s_gh 0 ?_
  rcases b with _ | c
  · refine s_ret (d_then (x := false) (d_andP (x := false) (y := false) (d_cmp (d_fldV N.kSearch 0 4 rfl ns_Search_nd (d_non (o_notN ⟨rfl, rfl⟩)))) (fun hb => Bool.noConfusion hb)) (hk ⟨rfl, rfl⟩))
  · refine s_ret (d_then (x := decide (t > c.1)) (d_andP (x := true) (y := decide (t > c.1)) (d_cmp (d_fldV N.kSearch 0 4 rfl ns_Search_nd (d_non (o_notN ⟨rfl, rfl⟩)))) (fun _ => (d_one (d_cmp (d_var 1 (d_ix (d_re (x := fun _ _ => True) (ra := rOpt rRk) (rc := rRk) (d_fldV N.kSearch 0 4 rfl ns_Search_nd ⟨c, opt_get, d_int (i_tup 0 (o_gt ⟨rfl, rfl⟩))⟩)))))))) (hk ⟨rfl, rfl⟩))
abbrev sp_grow (m : Nat) (C : Addr) (K : Fg) : Sp := spM K [] (fCons (rGh (β := Se)) (fCons rOrd (fOne (rLst rBf)))) (fun x => GrOk m x.1.2.1 x.1.2.2.1 x.2.1 x.2.2) (fun x => [sOwn C x.1]) rNon fun x _ O' => O' = [sOwn C (x.1.1, x.1.2.1, x.1.2.2.1, x.1.2.2.2.1, grV x.1.2.1 x.1.2.2.1 x.1.2.2.2.1 m x.2.1 x.1.2.2.2.2)]
abbrev N_Search_grow : List Str := ["self", "order", "before", "ticks", "rank", "index", "arrival", "tick", "_"]
theorem sc_Search_grow : FnScope N_Search_grow ["self", "order", "before"] (defScope s_Search_grow) := ⟨rfl, rfl, rfl, by decide +kernel, rfl, by decide +kernel, by decide +kernel⟩
theorem grow0 (N : Nm K mg) (T : Bt mg) : FnOk P w K mg base CX0 2 N.mSearch_grow.f N.mSearch_grow.fd ["self", "order", "before"] (sp_grow 0 N.cSearch K) := by
  refine fn_m N.mSearch_grow.F sc_Search_grow [] fun cdv A outer s G H E x Q fam hp hk => ?_
  obtain ⟨⟨p, g, as, sh, b⟩, o, bf⟩ := x
  have hg : GapOk g := hp.hg
  have ha : ∀ a ∈ as, ArrOk a := hp.ha
  have hl : as.length ≤ 10 := hp.hl
  have hm : o.length + 0 = as.length := hp.hm
  have ho : ∀ i ∈ o, InR as.length i := hp.ho
  have hb : bf = befV g as o := hp.hb
  clear hp
  have z1 : 100000 ≤ sizeLine := by decide
  have hk' : ∀ {Γ : Gm} {b' : Option Rk}, updB b (rkV g as o) = b' → RT K ⟨[], _, G, H, []⟩ Γ [⟨p, oSe N.cSearch, mkSe g as sh b'⟩] rNon () _ := fun {Γ b'} e => hk (by subst e; rfl)
  clear hk
  show DS _ K ⟨[], _, G, H, []⟩ [some ⟨rGh (β := Se), (p, g, as, sh, b)⟩, some ⟨rOrd, o⟩, some ⟨rLst rBf, bf⟩, none, none, none, none, none, none] [⟨p, oSe N.cSearch, mkSe g as sh b⟩] (defBody s_Search_grow) _
  refine s_gh 0 ?_
  refine s_ifP (x := true) (dt_cmp (d_callB T.len bt_len (da_one (d_var 1 (c_lenT (d_callB T.len bt_len (da_one (d_fldV N.kSearch 0 1 rfl ns_Search_nd (c_lenL (o_eqI ⟨decide_eq_true (show (o.length : Int) = (as.length : Int) by omega), rfl⟩)))))))))) (fun _ => ?_) (fun hb => Bool.noConfusion hb)
  refine s_set 3 (d_callT T.tuple bt_tuple (da_one (d_lcP (js := [8, 7]) (ra := rBf) (rb := rInt) (f := fun p : Bf => p.2) [("_", 8), ("tick", 7)] [8, 7] (fun _ => blkOk_by (N := N_Search_grow) (sc := defScope s_Search_grow) (by decide +kernel)) (w_lst (d_var 2 ⟨rfl, ?_, fun gg D ys q hpm => (g_tup (gs_cons (g_name 8 (gs_one (g_name 7 ?_))))), (c_tuple ?_)⟩)))))
  · rw [hb, bef_len]; omega
  · exact d_var (ra := rInt) (x := q.2) 7 ⟨rfl, rfl⟩
  rw [show bf.map (fun p : Bf => p.2) = tkV g as o by rw [hb]; rfl]
  refine s_set 4 (ra := rRk) (d_tup (da_cons (d_maxDT T.max (d_var (ra := rOrd) (x := tkV g as o) 3 (d_int (fun m h0 h1 => ?_))))))
  rw [mx0_one (tk_pos g ha ho) h0 h1]
  refine da_cons (d_callB T.sum bt_sum (da_one (d_var (ra := rOrd) (x := tkV g as o) 3 (c_sumT (da_cons (d_var (ra := rOrd) (x := o) 1 (da_one (d_var (ra := rOrd) (x := tkV g as o) 3 ?_))))))))
  show DS _ K ⟨[], _, G, H, []⟩ [some ⟨rAdr, p⟩, some ⟨rOrd, o⟩, some ⟨rLst rBf, bf⟩, some ⟨rOrd, tkV g as o⟩, some ⟨rRk, rkV g as o⟩, none, none, none, none] [⟨p, oSe N.cSearch, mkSe g as sh b⟩] _ _
  generalize er : rkV g as o = r at hk' ⊢
  rcases b with _ | c
  · refine s_ifP (x := true) (dt_bool (dp_orP (x := true) (y := false) (dt_cmp (d_fldV N.kSearch 0 4 rfl ns_Search_nd (d_non (o_isN ⟨rfl, rfl⟩)))) (fun hb => Bool.noConfusion hb))) (fun _ => ?_) (fun hb => Bool.noConfusion hb)
    refine s_fld N.kSearch 4 rfl ns_Search_nd (d_some (ra := rRk) (d_var (ra := rRk) (x := r) 4 (d_var (ra := rAdr) (x := p) 0 ⟨_, _, inferInstance, ?_⟩)))
    exact s_out (s_retN (hk' rfl))
  · refine s_ifP (x := ltR r c) (dt_bool (dp_orP (x := false) (y := ltR r c) (dt_cmp (d_fldV N.kSearch 0 4 rfl ns_Search_nd (d_non (o_isN ⟨rfl, rfl⟩)))) (fun _ => (dp_or1 (dt_cmp (d_var (ra := rRk) (x := r) 4 (d_re (x := fun _ _ => True) (ra := rOpt rRk) (rc := rRk) (d_fldV N.kSearch 0 4 rfl ns_Search_nd ⟨c, opt_get, o_ltD ⟨rfl, rfl⟩⟩)))))))) (fun hb => ?_) (fun hb => ?_)
    · refine s_fld N.kSearch 4 rfl ns_Search_nd (d_some (ra := rRk) (d_var (ra := rRk) (x := r) 4 (d_var (ra := rAdr) (x := p) 0 ⟨_, _, inferInstance, ?_⟩)))
      exact s_out (s_retN (hk' (by unfold updB; dsimp only; rw [if_pos hb])))
    · exact s_out (s_retN (hk' (by unfold updB; dsimp only; rw [if_neg (by rw [hb]; decide)])))
end
end Law
set_option Elab.async false
set_option linter.all false
set_option maxRecDepth 100000
set_option maxHeartbeats 4100000
set_option synthInstance.maxSize 4000
set_option synthInstance.maxHeartbeats 400000
/-! LnF: the search, by its depth (k18). -/
namespace Law
open PySem L2 Evl Sk
local macro_rules | `(tactic| walk_at "sc") => `(tactic| first | omega | assumption | trivial | (with_reducible exact mulOk) | (with_reducible exact smOk) | (with_reducible exact ⟨by decide, smOk⟩) | (with_reducible exact ⟨by omega, smOk⟩) | decide | rfl | (simp only [List.length_cons, List.length_nil]; decide) | exact divOk (by omega))
abbrev grF (g : Gap) (as : List Arr) (sh : Int) (m : Nat) (o : List Int) (b : Option Rk) (i : Nat) : Option Rk := if skp as sh o (i : Int) = true then b else
      if (decide (ltV g (arV as (i : Int)) (befV g as o) ≤ (arV as (i : Int)).2.2) && !wrs b (ltV g (arV as (i : Int)) (befV g as o))) = true then grV g as sh m (o ++ [(i : Int)]) b else b
theorem gr_succ (g : Gap) (as : List Arr) (sh : Int) (m : Nat) (o : List Int) (b : Option Rk) : grV g as sh (m + 1) o b = (List.range as.length).foldl (grF g as sh m o) b := rfl
section
variable {P : Program} {w : World} {K : PySem.W.Frag} {mg : Str → Option Value} {base : Heap}
theorem ok_grow (N : Nm K mg) (T : Bt mg) : ∀ m : Nat, FnOk P w K mg base CX0 (m + 2) N.mSearch_grow.f N.mSearch_grow.fd ["self", "order", "before"] (sp_grow m N.cSearch K)
  | 0 => grow0 N T
  | m + 1 => by
    have ih := ok_grow N T m
    refine fn_m (k := m + 2) N.mSearch_grow.F sc_Search_grow [] fun cdv A outer s G H E x Q fam hp hk => ?_
    obtain ⟨⟨p, g, as, sh, b⟩, o, bf⟩ := x
    have hg : GapOk g := hp.hg
    have ha : ∀ a ∈ as, ArrOk a := hp.ha
    have hl : as.length ≤ 10 := hp.hl
    have hm : o.length + (m + 1) = as.length := hp.hm
    have ho : ∀ i ∈ o, InR as.length i := hp.ho
    have hb : bf = befV g as o := hp.hb
    clear hp
    have z1 : 100000 ≤ sizeLine := by decide
    have hk' : ∀ {Γ : Gm} {b' : Option Rk}, grV g as sh (m + 1) o b = b' → RT K ⟨[], _, G, H, []⟩ Γ [⟨p, oSe N.cSearch, mkSe g as sh b'⟩] rNon () _ := fun {Γ b'} e => hk (by subst e; rfl)
    clear hk
    show DS _ K ⟨[], _, G, H, []⟩ [some ⟨rGh (β := Se), (p, g, as, sh, b)⟩, some ⟨rOrd, o⟩, some ⟨rLst rBf, bf⟩, none, none, none, none, none, none] [⟨p, oSe N.cSearch, mkSe g as sh b⟩] (defBody s_Search_grow) _
    refine s_gh 0 ?_
    refine s_ifP (x := false) (dt_cmp (d_callB T.len bt_len (da_one (d_var 1 (c_lenT (d_callB T.len bt_len (da_one (d_fldV N.kSearch 0 1 rfl ns_Search_nd (c_lenL (o_eqI ⟨decide_eq_false (show ¬ (o.length : Int) = (as.length : Int) by omega), rfl⟩)))))))))) (fun hb => Bool.noConfusion hb) (fun _ => s_out ?_)
    refine s_for (js := [5, 6]) (w_enum T.enumerate (d_fldV N.kSearch 0 1 rfl ns_Search_nd ?_))
    refine ⟨Option Rk, fun i d => d = (List.range i).foldl (grF g as sh m o) b, fun _ => [some ⟨rAdr, p⟩, some ⟨rOrd, o⟩, some ⟨rLst rBf, bf⟩, none, none, none, none, none, none], fun d => [⟨p, oSe N.cSearch, mkSe g as sh d⟩], ⟨b, rfl, ⟨rfl, rfl, rfl, trivial⟩, rfl⟩, fun gg i z d hx hd => ?_, fun d hd => ?_⟩
    · obtain ⟨a, h1, h2⟩ := enm_get.mp hx
      subst h2
      have hd : d = (List.range i).foldl (grF g as sh m o) b := hd
      have hi : i < as.length := (List.getElem?_eq_some_iff.mp h1).1
      have hr : InR as.length (i : Int) := ⟨by omega, by omega⟩
      have ea : a = arV as (i : Int) := by
        show a = as.getD ((i : Int)).toNat (0, 0, 0)
        rw [Int.toNat_natCast, List.getD_eq_getElem?_getD, h1]
        rfl
      subst ea
      have hstep : (List.range (i + 1)).foldl (grF g as sh m o) b = grF g as sh m o d i := by
        rw [List.range_succ, List.foldl_append, ← hd]
        rfl
      refine g_tup (gs_cons (g_name 5 (gs_one (g_name 6 ?_))))
      dsimp only
      refine s_ifP (x := skp as sh o (i : Int)) (dt_bool (dp_orP (dt_cmp (d_var (ra := rInt) (x := (i : Int)) 5 (d_var (ra := rOrd) (x := o) 1 (o_inT ⟨rfl, rfl⟩)))) (fun _ => (dp_or1 (dt_cmp (d_callB T.abs bt_abs (da_one (d_bin (d_ix (d_fldV N.kSearch 0 3 rfl ns_Search_nd (d_var (ra := rInt) (x := (i : Int)) 5 (i_lst (ps_at hr) (d_callB T.len bt_len (da_one (d_var (ra := rOrd) (x := o) 1 (c_lenT (o_sub (c_abs (d_fldV N.kSearch 0 2 rfl ns_Search_nd (o_gt ⟨rfl, rfl⟩)))))))))))))))))))) (fun hs => ?_) (fun hs => s_out ?_)
      · refine s_contI d ?_ ⟨rfl, rfl, rfl, trivial⟩ rfl
        show d = (List.range (i + 1)).foldl (grF g as sh m o) b
        rw [hstep]
        unfold grF
        rw [if_pos hs]
      have hax := ha _ (arr_mem hr)
      have hbo : ∀ b ∈ bf, W4 b.1 := by rw [hb]; exact bef_ok g ha ho
      have hbl : bf.length = o.length := by rw [hb, bef_len]
      refine s_set 7 (d_call (hj := by omega) N.landing_tick (ok_landing_tick N T) (da_cons (d_fldV N.kSearch 0 0 rfl ns_Search_nd (da_cons (d_var (ra := rArr) (x := arV as (i : Int)) 6 (da_one (d_var (ra := rLst rBf) (x := bf) 2 (sw_f ⟨⟨hg, hax.w⟩, by dsimp only; omega, hbo⟩ ?_))))))))
      dsimp only
      generalize et : ltV g (arV as (i : Int)) bf = t
      have et2 : ltV g (arV as (i : Int)) (befV g as o) = t := by rw [← hb]; exact et
      refine s_ifP (x := decide (t ≤ (arV as (i : Int)).2.2) && !wrs d t) (dt_bool (dp_andP (dt_cmp (d_var (ra := rInt) (x := t) 7 (d_ix (d_var (ra := rArr) (x := arV as (i : Int)) 6 (d_int (i_tup 2 (o_le ⟨rfl, rfl⟩))))))) (fun _ => (dp_and1 (dt_notP (dt_val (d_meth (hj := by omega) N.kSearch N.mSearch_is_worse (ok_Search_is_worse N T) (d_gh (g, as, sh, d) (d_var (ra := rAdr) (x := p) 0 ⟨_, inferInstance, da_one (d_var (ra := rInt) (x := t) 7 (sw_1 (q := p) trivial (fun y hy => ⟨hy, rfl⟩)))⟩))))))))) (fun hs2 => ?_) (fun hs2 => ?_)
      · have hgr : GrOk m g as (o ++ [(i : Int)]) (bf ++ [((arV as (i : Int)).1, t)]) := ⟨hg, ha, hl, by rw [List.length_append]; show o.length + 1 + m = _; omega, fun j hj => by
          rcases List.mem_append.mp hj with z | z
          · exact ho j z
          · rw [List.mem_singleton.mp z]; exact hr, by rw [bef_snoc, ← hb, et]⟩
        refine s_expr (d_meth (hj := by omega) N.kSearch N.mSearch_grow ih (d_gh (g, as, sh, d) (d_var (ra := rAdr) (x := p) 0 ⟨_, inferInstance, da_cons (d_tpv (ra := rInt) (da_starT (d_var (ra := rOrd) (x := o) 1 (da_all (d_var (ra := rInt) (x := (i : Int)) 5 (da_all0 ⟨?_, da_one (d_lst (ra := rBf) (da_star (d_var (ra := rLst rBf) (x := bf) 2 ⟨_, inferInstance, da_all (d_tup (da_cons (d_ix (d_var (ra := rArr) (x := arV as (i : Int)) 6 (d_int (i_tup 0 (da_one (d_var (ra := rInt) (x := t) 7 (da_all0 ⟨?_, sw_m [] hgr (fun w hw => by simpa using hw) (fun z => by simpa using z) (fun y O' hy => ?_)⟩)))))))))⟩)))⟩))))))⟩)))
        · rw [List.length_append]
          show o.length + 1 ≤ sizeLine
          omega
        · rw [List.length_append]
          show bf.length + 1 ≤ sizeLine
          omega
        · subst hy
          refine s_out (s_next (grV g as sh m (o ++ [(i : Int)]) d) ?_ ⟨rfl, rfl, rfl, trivial⟩ rfl)
          show _ = (List.range (i + 1)).foldl (grF g as sh m o) b
          rw [hstep]
          unfold grF
          rw [if_neg (by rw [hs]; decide), et2, if_pos hs2]
      · refine s_out (s_next d ?_ ⟨rfl, rfl, rfl, trivial⟩ rfl)
        show d = (List.range (i + 1)).foldl (grF g as sh m o) b
        rw [hstep]
        unfold grF
        rw [if_neg (by rw [hs]; decide), et2, if_neg (by rw [hs2]; decide)]
    · have hd : d = (List.range (enm as).length).foldl (grF g as sh m o) b := hd
      rw [enm_len] at hd
      exact s_fall (hk' (by rw [hd]; rfl))
end
end Law
set_option Elab.async false
set_option linter.all false
set_option maxRecDepth 100000
set_option maxHeartbeats 4100000
set_option synthInstance.maxSize 4000
set_option synthInstance.maxHeartbeats 400000
/-! LnG: the best order, walked (k18). -/
namespace Law
open PySem L2 Evl Sk
local macro_rules | `(tactic| walk_at "sc") => `(tactic| first | omega | assumption | trivial | (with_reducible exact mulOk) | (with_reducible exact smOk) | (with_reducible exact ⟨by decide, smOk⟩) | (with_reducible exact ⟨by omega, smOk⟩) | decide | rfl | (simp only [List.length_cons, List.length_nil]; decide) | exact divOk (by omega))
abbrev An := List Int × List Int
abbrev rAns : Rp An := rTup (fCons rOrd (fOne rOrd))
abbrev fiV (g : Gap) (as : List Arr) (sh : Int) : Option Rk := grV g as sh as.length [] none
abbrev anV (r : Rk) : An := (r.2.2.1, r.2.2.2)
abbrev SeF : List (Str × V) := [("code", .str "none")]
structure BeOk (x : Gap × List Arr × Int) : Prop where
  g : GapOk x.1
  a : ∀ a ∈ x.2.1, ArrOk a
  l : x.2.1.length ≤ 10
section
variable {P : Program} {w : World} {K : PySem.W.Frag} {mg : Str → Option Value} {base : Heap}
abbrev sp_best_order (E : Addr) (K : Fg) : Sp := sp0X K [] (fCons rGap (fCons (rLst rArr) (fOne rInt))) BeOk rAns (fun x y => ∃ r, fiV x.1 x.2.1 x.2.2 = some r ∧ y = anV r) fun x C fl => C = E ∧ fl = SeF ∧ fiV x.1 x.2.1 x.2.2 = none
abbrev N_best_order : List Str := ["gaps", "arrivals", "shift", "search", "_", "order", "ticks"]
theorem sc_best_order : FnScope N_best_order ["gaps", "arrivals", "shift"] (defScope s_best_order) := ⟨rfl, rfl, rfl, by decide +kernel, rfl, by decide +kernel, by decide +kernel⟩
theorem ok_best_order (N : Nm K mg) (T : Bt mg) (hP : P.main = pM) : FnOk P w K mg base (L2.CX P w) 13 N.best_order.f N.best_order.fd ["gaps", "arrivals", "shift"] (sp_best_order N.cSequenceError K) := by
  refine fn_x N.best_order.F sc_best_order [] fun cdv A outer s G H E x Q fam hp tk hpo hk hkx => ?_
  obtain ⟨g, as, sh⟩ := x
  have hg : GapOk g := hp.g
  have ha : ∀ a ∈ as, ArrOk a := hp.a
  have hl : as.length ≤ 10 := hp.l
  have hk' : ∀ {Γ : Gm} {r : Rk}, fiV g as sh = some r → RT K ⟨[], _, G, H, []⟩ Γ [] rAns (anV r) _ := fun {Γ r} e => hk ⟨rfl, r, e, rfl⟩
  have hx' : ∀ {Γ : Gm}, fiV g as sh = none → XT K ⟨[], _, G, H, []⟩ Γ [] N.cSequenceError SeF _ := fun {Γ} e => hkx ⟨rfl, rfl, rfl, e⟩
  clear hk hkx
  have hgr : GrOk as.length g as [] [] := ⟨hg, ha, hl, by show 0 + as.length = _; omega, fun i hi => absurd hi List.not_mem_nil, rfl⟩
  show DS _ K ⟨[], _, G, H, []⟩ [some ⟨rGap, g⟩, some ⟨rLst rArr, as⟩, some ⟨rInt, sh⟩, none, none, none, none] [] (defBody s_best_order) _
  refine s_set 3 (d_make N.iSearch (ok_Search_init N T) (da_cons (d_var 0 (da_cons (d_var 1 (da_one (d_var 2 (fun q hq => sw_m [] (by dsimp only; omega) (fun w hw => by simpa using hw) (fun z => by simpa using z) (fun y O' hy => ?_)))))))))
  subst hy
  show DS _ K ⟨[], _, G, H, []⟩ [some ⟨rGap, g⟩, some ⟨rLst rArr, as⟩, some ⟨rInt, sh⟩, some ⟨rAdr, q⟩, none, none, none] [⟨q, oSe N.cSearch, mkSe g as sh none⟩] _ _
  refine s_expr (d_meth (hj := by omega) N.kSearch N.mSearch_grow (ok_grow N T as.length) (d_gh (g, as, sh, none) (d_var (ra := rAdr) (x := q) 3 ⟨_, inferInstance, da_cons (d_tpv (ra := rInt) (da_all0 ⟨by walk_at "sc", da_one (d_lst (ra := rBf) (da_all0 ⟨by walk_at "sc", sw_m [] hgr (fun w hw => by simpa using hw) (fun z => by simpa using z) (fun y O' hy => ?_)⟩))⟩))⟩)))
  subst hy
  show DS _ K ⟨[], _, G, H, []⟩ [some ⟨rGap, g⟩, some ⟨rLst rArr, as⟩, some ⟨rInt, sh⟩, some ⟨rAdr, q⟩, none, none, none] [⟨q, oSe N.cSearch, mkSe g as sh (fiV g as sh)⟩] _ _
  generalize fiV g as sh = b at hk' hx'
  rcases b with _ | r
  · refine s_ifP (x := true) (dt_cmp (d_fldV N.kSearch 3 4 rfl ns_Search_nd (d_non (o_isN ⟨rfl, rfl⟩)))) (fun _ => ?_) (fun hb => Bool.noConfusion hb)
    refine s_raise tk N.xSequenceError (ini_SequenceError N hP) (da_one (d_str ⟨⟨rfl, by decide⟩, fun v hv => ?_, xt_drop (hx' rfl)⟩))
    rw [List.mem_singleton.mp hv]
    exact .inl ⟨"none", rfl, by decide +kernel⟩
  · refine s_ifP (x := false) (dt_cmp (d_fldV N.kSearch 3 4 rfl ns_Search_nd (d_non (o_isN ⟨rfl, rfl⟩)))) (fun hb => Bool.noConfusion hb) (fun _ => s_out ?_)
    obtain ⟨r1, r2, r3, r4⟩ := r
    refine s_asg (d_re (x := fun _ _ => True) (ra := rOpt rRk) (rc := rRk) (d_fldV N.kSearch 3 4 rfl ns_Search_nd ⟨(r1, r2, r3, r4), opt_get, g_tup (gs_cons (g_name 4 (gs_cons (g_name 4 (gs_cons (g_name 5 (gs_one (g_name 6 ?_))))))))⟩))
    exact s_ret (d_tup (da_cons (d_var (ra := rOrd) (x := r3) 5 (da_one (d_var (ra := rOrd) (x := r4) 6 (rt_drop (hk' (r := (r1, r2, r3, r4)) rfl)))))))
end
end Law
set_option Elab.async false
set_option linter.all false
set_option maxRecDepth 100000
set_option maxHeartbeats 4100000
set_option synthInstance.maxSize 4000
set_option synthInstance.maxHeartbeats 400000
/-! LnH: the law's own orders, ticks, ranks, walked (k18). -/
namespace Law
open PySem L2 Evl Sk
local macro_rules | `(tactic| walk_at "sc") => `(tactic| first | omega | assumption | trivial | (with_reducible exact mulOk) | (with_reducible exact smOk) | (with_reducible exact ⟨by decide, smOk⟩) | (with_reducible exact ⟨by omega, smOk⟩) | decide | rfl | (simp only [List.length_cons, List.length_nil]; decide) | exact divOk (by omega))
def prtV (o : List Int) (j : Nat) : List (List Int) := ((List.range j).filter fun i : Nat => !decide ((i : Int) ∈ o)).map fun i : Nat => o ++ [(i : Int)]
abbrev oneV (n : Nat) (o : List Int) : List (List Int) := prtV o n
def ordsV (n : Nat) : Nat → List (List Int)
  | 0 => [[]]
  | k + 1 => (ordsV n k).flatMap (oneV n)
theorem prt_len (o : List Int) (j : Nat) : (prtV o j).length ≤ j := by
  unfold prtV
  rw [List.length_map]
  exact Nat.le_trans (List.length_filter_le _ _) (by rw [List.length_range]; exact Nat.le_refl _)
theorem fl_len (n : Nat) : ∀ l : List (List Int), (l.flatMap (oneV n)).length ≤ l.length * n
  | [] => by simp
  | x :: l => by
    rw [List.flatMap_cons, List.length_append, List.length_cons, Nat.add_mul, Nat.one_mul]
    have h1 := fl_len n l
    have h2 : (oneV n x).length ≤ n := prt_len x n
    omega
theorem ords_len {n : Nat} (hn : n ≤ 6) : ∀ k, (ordsV n k).length ≤ 6 ^ k
  | 0 => Nat.le_refl _
  | k + 1 => by
    have h1 := fl_len n (ordsV n k)
    have h2 := Nat.mul_le_mul (ords_len hn k) hn
    show ((ordsV n k).flatMap (oneV n)).length ≤ 6 ^ k * 6
    omega
theorem prt_mem {o : List Int} {j : Nat} {p : List Int} : p ∈ prtV o j ↔ ∃ i : Nat, i < j ∧ (i : Int) ∉ o ∧ p = o ++ [(i : Int)] := by
  unfold prtV
  rw [List.mem_map]
  constructor
  · rintro ⟨i, hi, e⟩
    obtain ⟨h1, h2⟩ := List.mem_filter.mp hi
    exact ⟨i, List.mem_range.mp h1, by simpa using h2, e.symm⟩
  · rintro ⟨i, hi, h, e⟩
    exact ⟨i, List.mem_filter.mpr ⟨List.mem_range.mpr hi, by simpa using h⟩, e.symm⟩
theorem ords_mem {n : Nat} : ∀ {k : Nat} {o : List Int}, o ∈ ordsV n k ↔ o.length = k ∧ o.Nodup ∧ ∀ i ∈ o, InR n i
  | 0, o => by
    show o ∈ [[]] ↔ _
    rw [List.mem_singleton]
    constructor
    · intro e
      subst e
      exact ⟨rfl, List.nodup_nil, fun i hi => absurd hi List.not_mem_nil⟩
    · intro h
      exact List.eq_nil_of_length_eq_zero h.1
  | k + 1, o => by
    show o ∈ (ordsV n k).flatMap (oneV n) ↔ _
    rw [List.mem_flatMap]
    constructor
    · rintro ⟨r, hr, h⟩
      obtain ⟨i, hi, hn, e⟩ := prt_mem.mp h
      obtain ⟨h1, h2, h3⟩ := ords_mem.mp hr
      subst e
      refine ⟨by rw [List.length_append, h1]; rfl, ?_, fun j hj => ?_⟩
      · rw [List.nodup_append]
        refine ⟨h2, List.nodup_cons.mpr ⟨List.not_mem_nil, List.nodup_nil⟩, fun a ha b hb => ?_⟩
        rw [List.mem_singleton.mp hb]
        intro e
        rw [e] at ha
        exact hn ha
      · rcases List.mem_append.mp hj with z | z
        · exact h3 j z
        · rw [List.mem_singleton.mp z]
          exact ⟨by omega, by omega⟩
    · rintro ⟨h1, h2, h3⟩
      have hne : o ≠ [] := fun e => by rw [e] at h1; cases h1
      have e := List.dropLast_concat_getLast hne
      have hl : (o.getLast hne) ∈ o := List.getLast_mem hne
      obtain ⟨g0, g1⟩ := h3 _ hl
      have hnd : o.dropLast.Nodup ∧ o.getLast hne ∉ o.dropLast := by
        rw [← e, List.nodup_append] at h2
        exact ⟨h2.1, fun z => h2.2.2 _ z _ (List.mem_singleton.mpr rfl) rfl⟩
      refine ⟨o.dropLast, ords_mem.mpr ⟨by rw [List.length_dropLast, h1]; rfl, hnd.1, fun i hi => h3 i ((List.dropLast_sublist o).subset hi)⟩, prt_mem.mpr ⟨(o.getLast hne).toNat, by omega, ?_, ?_⟩⟩
      · rw [Int.toNat_of_nonneg g0]
        exact hnd.2
      · rw [Int.toNat_of_nonneg g0]
        exact e.symm
theorem bef_fst (g : Gap) (as : List Arr) (o : List Int) : (befV g as o).map (·.1) = o.map fun i => (arV as i).1 := by
  refine snoc_rec (P := fun o => (befV g as o).map (·.1) = o.map fun i => (arV as i).1) rfl (fun l x h => ?_) o
  rw [bef_snoc, List.map_append, List.map_append, h]
  rfl
theorem bef_at {g : Gap} {as : List Arr} {o : List Int} {j : Nat} {i t : Int} (hi : o[j]? = some i) (ht : (tkV g as o)[j]? = some t) : (befV g as o)[j]? = some ((arV as i).1, t) := by
  have hl := (List.getElem?_eq_some_iff.mp hi).1
  have hb : j < (befV g as o).length := by rw [bef_len]; exact hl
  have e1 : ((befV g as o).map (·.1))[j]? = some (arV as i).1 := by
    rw [bef_fst, List.getElem?_map, hi]
    rfl
  have e2 : ((befV g as o).map (·.2))[j]? = some t := ht
  rw [List.getElem?_map, List.getElem?_eq_getElem hb] at e1 e2
  rw [List.getElem?_eq_getElem hb]
  exact congrArg some (Prod.ext (Option.some.inj e1) (Option.some.inj e2))
def gdV (as : List Arr) (o ts : List Int) (sh : Int) : Bool := (List.range o.length).all fun p : Nat => decide (ts.getD p 0 ≤ (arV as (o.getD p 0)).2.2) && decide (absV (posI as (o.getD p 0) - (p : Int)) ≤ sh)
def rksV (g : Gap) (as : List Arr) (sh : Int) : List Rk := ((ordsV as.length as.length).filter fun o => gdV as o (tkV g as o) sh).map (rkV g as)
theorem mx0_two {ts : List Int} (hp : ∀ t ∈ ts, 0 ≤ t) {m : Int} (h1 : m ∈ ts ++ [0]) (h2 : ∀ y ∈ ts ++ [0], y ≤ m) : m = mx0 ts := by
  obtain ⟨k1, k2⟩ := foldl_max_mem ts 0
  have a1 : ts.foldl max 0 ∈ ts ++ [0] := by
    rcases List.mem_cons.mp k1 with z | z
    · rw [z]; exact List.mem_append_right _ (List.mem_singleton.mpr rfl)
    · exact List.mem_append_left _ z
  have a2 : m ∈ 0 :: ts := by
    rcases List.mem_append.mp h1 with z | z
    · exact List.mem_cons_of_mem _ z
    · rw [List.mem_singleton.mp z]; exact List.mem_cons_self
  have := h2 _ a1
  have := k2 _ a2
  show m = ts.foldl max 0
  omega
theorem flatMap_take {α β : Type} {f : α → List β} {xs : List α} {i : Nat} {x : α} (h : xs[i]? = some x) : (xs.take (i + 1)).flatMap f = (xs.take i).flatMap f ++ f x := by
  rw [List.take_succ, h, List.flatMap_append]
  simp
end Law
set_option Elab.async false
set_option linter.all false
set_option maxRecDepth 100000
set_option maxHeartbeats 1000000
set_option synthInstance.maxSize 4000
set_option synthInstance.maxHeartbeats 400000
/-! LnI: the law's own ticks, ranks, best, walked (k18). -/
namespace Law
open PySem L2 Evl Sk
local macro_rules | `(tactic| walk_at "sc") => `(tactic| first | omega | assumption | trivial | (with_reducible exact mulOk) | (with_reducible exact smOk) | (with_reducible exact ⟨by decide, smOk⟩) | (with_reducible exact ⟨by omega, smOk⟩) | decide | rfl | (simp only [List.length_cons, List.length_nil]; decide) | exact divOk (by omega))
theorem prs_rg (as : List Arr) : (rgI 0 1 as.length).map (fun k : Int => ((arV as k).2.1, k)) = prsV as := by
  refine List.ext_getElem? fun i => ?_
  rw [List.getElem?_map]
  by_cases h : i < as.length
  · have hl : i < (rgI 0 1 as.length).length := by rw [rgI_len]; exact h
    have g := List.getElem?_eq_getElem hl
    obtain ⟨_, ex⟩ := rgI_item g
    rw [g, prs_get.mpr ⟨h, rfl⟩]
    show some _ = some _
    rw [ex]
    have : 0 + (i : Int) * 1 = (i : Int) := by omega
    first | rw [this] | rfl | simp
  · rw [List.getElem?_eq_none (by rw [rgI_len]; omega), List.getElem?_eq_none (by rw [prs_len]; omega)]
    rfl
end Law
set_option Elab.async false
set_option linter.all false
set_option maxRecDepth 100000
set_option maxHeartbeats 1000000
set_option synthInstance.maxSize 4000
set_option synthInstance.maxHeartbeats 400000
/-! LnJ: the law's own best order, walked (k18). -/
namespace Law
open PySem L2 Evl Sk
local macro_rules | `(tactic| walk_at "sc") => `(tactic| first | omega | assumption | trivial | (with_reducible exact mulOk) | (with_reducible exact smOk) | (with_reducible exact ⟨by decide, smOk⟩) | (with_reducible exact ⟨by omega, smOk⟩) | decide | rfl | (simp only [List.length_cons, List.length_nil]; decide) | exact divOk (by omega))
theorem filter_take {α : Type} {f : α → Bool} {xs : List α} {i : Nat} {x : α} (h : xs[i]? = some x) : (xs.take (i + 1)).filter f = if f x = true then (xs.take i).filter f ++ [x] else (xs.take i).filter f := by
  rw [List.take_succ, h, List.filter_append]
  show _ ++ [x].filter f = _
  rw [List.filter_cons]
  split <;> simp
end Law
set_option Elab.async false
set_option linter.all false
set_option maxRecDepth 100000
set_option maxHeartbeats 1000000
/-! LnP: the search finds the least rank (k18), plain Lean. -/
namespace Law
open PySem L2 Evl Sk
open PyProof.Rows (lexLt lex_irrefl lex_negTrans lex_total itemOrd)
open PySem.W (keyToks keyToksAll dataLt toks_eqv alike lex_pre)
theorem lt_irr (x : Rk) : ltR x x = false := lex_irrefl (O := itemOrd) _
theorem lt_neg {x y z : Rk} (h : ltR x z = true) : ltR x y = true ∨ ltR y z = true := lex_negTrans (O := itemOrd) _ _ _ h
theorem lt_fst {x y : Rk} (h : x.1 < y.1) : ltR x y = true := by
  have hd : PyData.eqv (PyData.int x.1) (PyData.int y.1) = false := by
    show (x.1 == y.1) = false
    simp only [beq_eq_false_iff_ne, ne_eq]
    omega
  show dataLt (PyData.tuple _) (PyData.tuple _) = true
  rw [PySem.W.dataLt_tuple, PySem.W.dataLt_all_no (by simp [alike]) hd, PySem.W.dataLt_int]
  exact decide_eq_true h
theorem lt_asym {x y : Rk} (h : ltR x y = true) : ltR y x = false := by
  cases hc : ltR y x with
  | false => rfl
  | true =>
    have := PyProof.Rows.lex_trans (O := itemOrd) _ _ _ h hc
    have e : ltR x x = true := this
    rw [lt_irr] at e
    cases e
/-- r is the least of b and S -/
structure IsMin (b : Option Rk) (S : Rk → Prop) (r : Option Rk) : Prop where
  nn : r = none → b = none ∧ ∀ x, ¬ S x
  sm : ∀ x, r = some x → b = some x ∨ S x
  old : ∀ x, r = some x → ∀ y, b = some y → ltR y x = false
  new : ∀ x, r = some x → ∀ y, S y → ltR y x = false
theorem IsMin.same {b : Option Rk} {S : Rk → Prop} (h : ∀ x, ¬ S x) : IsMin b S b := ⟨fun e => ⟨e, h⟩, fun x e => .inl e, fun x e y e2 => by
  rw [e] at e2
  rw [Option.some.inj e2]
  exact lt_irr _, fun x e y hy => absurd hy (h y)⟩
theorem IsMin.congr {b r : Option Rk} {S S' : Rk → Prop} (h : IsMin b S r) (e : ∀ x, S x ↔ S' x) : IsMin b S' r := ⟨fun z => ⟨(h.nn z).1, fun x hx => (h.nn z).2 x ((e x).mpr hx)⟩, fun x z => (h.sm x z).imp id (e x).mp, h.old, fun x z y hy => h.new x z y ((e y).mpr hy)⟩
theorem IsMin.comb {b r1 r2 : Option Rk} {S1 S2 : Rk → Prop} (h1 : IsMin b S1 r1) (h2 : IsMin r1 S2 r2) : IsMin b (fun x => S1 x ∨ S2 x) r2 := by
  have low : ∀ x, r2 = Option.some x → ∀ y, (b = Option.some y ∨ S1 y) → ltR y x = false := fun x ex y hy => by
    cases hr : r1 with
    | none =>
      obtain ⟨a1, a2⟩ := h1.nn hr
      rcases hy with z | z
      · rw [a1] at z; cases z
      · exact absurd z (a2 y)
    | some w =>
      have e1 : ltR w x = false := h2.old x ex w hr
      have e2 : ltR y w = false := hy.elim (h1.old w hr y) (h1.new w hr y)
      cases hc : ltR y x with
      | false => rfl
      | true =>
        rcases lt_neg (y := w) hc with z | z
        · rw [e2] at z; cases z
        · rw [e1] at z; cases z
  refine ⟨fun z => ?_, fun x ex => ?_, fun x ex y hy => low x ex y (.inl hy), fun x ex y hy => hy.elim (fun z => low x ex y (.inr z)) (h2.new x ex y)⟩
  · obtain ⟨a1, a2⟩ := h2.nn z
    obtain ⟨b1, b2⟩ := h1.nn a1
    exact ⟨b1, fun x hx => hx.elim (b2 x) (a2 x)⟩
  · rcases h2.sm x ex with z | z
    · exact (h1.sm x z).imp id .inl
    · exact .inr (.inr z)
theorem upd_min (b : Option Rk) (r : Rk) : IsMin b (fun x => x = r) (updB b r) := by
  cases b with
  | none => exact ⟨fun e => (by cases e), fun x e => .inr (Option.some.inj e).symm, fun x e y e2 => (by cases e2), fun x e y hy => by
      rw [hy, ← Option.some.inj e]
      exact lt_irr _⟩
  | some w =>
    unfold updB
    dsimp only
    by_cases h : ltR r w = true
    · rw [if_pos h]
      exact ⟨fun e => (by cases e), fun x e => .inr (Option.some.inj e).symm, fun x e y e2 => by
        rw [← Option.some.inj e, ← Option.some.inj e2]
        exact lt_asym h, fun x e y hy => by
        rw [hy, ← Option.some.inj e]
        exact lt_irr _⟩
    · rw [if_neg h]
      exact ⟨fun e => (by cases e), fun x e => .inl e, fun x e y e2 => by
        rw [← Option.some.inj e, ← Option.some.inj e2]
        exact lt_irr _, fun x e y hy => by
        rw [hy, ← Option.some.inj e]
        exact Bool.eq_false_iff.mpr h⟩
/-! orders that are good so far -/
theorem gd_snoc (g : Gap) (as : List Arr) (sh : Int) (o : List Int) (i : Int) : gdV as (o ++ [i]) (tkV g as (o ++ [i])) sh = (gdV as o (tkV g as o) sh && (decide (ltV g (arV as i) (befV g as o) ≤ (arV as i).2.2) && decide (absV (posI as i - (o.length : Int)) ≤ sh))) := by
  have e1 : ∀ p, p < o.length → (o ++ [i]).getD p 0 = o.getD p 0 := fun p hp => by
    rw [List.getD_eq_getElem?_getD, List.getD_eq_getElem?_getD, List.getElem?_append_left hp]
  have e2 : ∀ p, p < o.length → (tkV g as (o ++ [i])).getD p 0 = (tkV g as o).getD p 0 := fun p hp => by
    rw [tk_snoc, List.getD_eq_getElem?_getD, List.getD_eq_getElem?_getD, List.getElem?_append_left (by rw [tk_len]; exact hp)]
  have e3 : (o ++ [i]).getD o.length 0 = i := by
    rw [List.getD_eq_getElem?_getD, List.getElem?_append_right (Nat.le_refl _), Nat.sub_self]
    rfl
  have e4 : (tkV g as (o ++ [i])).getD o.length 0 = ltV g (arV as i) (befV g as o) := by
    rw [tk_snoc, List.getD_eq_getElem?_getD, List.getElem?_append_right (by rw [tk_len]; exact Nat.le_refl _), tk_len, Nat.sub_self]
    rfl
  have e5 : ([o.length].all fun p : Nat => decide ((tkV g as (o ++ [i])).getD p 0 ≤ (arV as ((o ++ [i]).getD p 0)).2.2) && decide (absV (posI as ((o ++ [i]).getD p 0) - (p : Int)) ≤ sh)) = (decide (ltV g (arV as i) (befV g as o) ≤ (arV as i).2.2) && decide (absV (posI as i - (o.length : Int)) ≤ sh)) := by
    rw [List.all_cons, List.all_nil, Bool.and_true, e3, e4]
  have e6 : ((List.range o.length).all fun p : Nat => decide ((tkV g as (o ++ [i])).getD p 0 ≤ (arV as ((o ++ [i]).getD p 0)).2.2) && decide (absV (posI as ((o ++ [i]).getD p 0) - (p : Int)) ≤ sh)) = gdV as o (tkV g as o) sh := by
    unfold gdV
    rw [Bool.eq_iff_iff, List.all_eq_true, List.all_eq_true]
    refine ⟨fun h p hp => ?_, fun h p hp => ?_⟩
    · have := h p hp
      rw [e1 p (List.mem_range.mp hp), e2 p (List.mem_range.mp hp)] at this
      exact this
    · rw [e1 p (List.mem_range.mp hp), e2 p (List.mem_range.mp hp)]
      exact h p hp
  rw [← e5, ← e6]
  conv => lhs; unfold gdV
  rw [List.length_append, show o.length + [i].length = o.length + 1 from rfl, List.range_succ, List.all_append]
theorem gd_pre (g : Gap) (as : List Arr) (sh : Int) (o : List Int) : ∀ r, gdV as (o ++ r) (tkV g as (o ++ r)) sh = true → gdV as o (tkV g as o) sh = true := by
  refine snoc_rec (fun h => by rw [List.append_nil] at h; exact h) fun l x ih h => ?_
  rw [← List.append_assoc, gd_snoc, Bool.and_eq_true] at h
  exact ih h.1
theorem tk_pre (g : Gap) (as : List Arr) (o : List Int) : ∀ r, ∀ t ∈ tkV g as o, t ∈ tkV g as (o ++ r) := by
  refine snoc_rec (fun t ht => by rw [List.append_nil]; exact ht) fun l x ih t ht => ?_
  rw [← List.append_assoc, tk_snoc]
  exact List.mem_append_left _ (ih t ht)
/-- a whole good order -/
structure Whole (g : Gap) (as : List Arr) (sh : Int) (c : List Int) : Prop where
  l : c.length = as.length
  n : c.Nodup
  i : ∀ i ∈ c, InR as.length i
  g : gdV as c (tkV g as c) sh = true
/-- ranks of the whole good orders that begin with o -/
def Cm (g : Gap) (as : List Arr) (sh : Int) (o : List Int) (x : Rk) : Prop := ∃ r, Whole g as sh (o ++ r) ∧ x = rkV g as (o ++ r)
theorem cm_split {g : Gap} {as : List Arr} {sh : Int} {o : List Int} (h : o.length < as.length) {x : Rk} : Cm g as sh o x ↔ ∃ i : Nat, i < as.length ∧ Cm g as sh (o ++ [(i : Int)]) x := by
  constructor
  · rintro ⟨r, hw, e⟩
    rcases r with _ | ⟨j, r⟩
    · have := hw.l
      rw [List.append_nil] at this
      omega
    · obtain ⟨j0, j1⟩ := hw.i j (List.mem_append_right _ List.mem_cons_self)
      have ej : ((j.toNat : Nat) : Int) = j := by omega
      refine ⟨j.toNat, by omega, r, ?_, ?_⟩
      · rw [ej, List.append_assoc]
        exact hw
      · rw [ej, List.append_assoc]
        exact e
  · rintro ⟨i, hi, r, hw, e⟩
    rw [List.append_assoc] at hw e
    exact ⟨_, hw, e⟩
theorem step_min {g : Gap} {as : List Arr} {sh : Int} (ha : ∀ a ∈ as, ArrOk a) {m : Nat} {o : List Int} {b : Option Rk} {i : Nat} (hi : i < as.length)
    (ih : skp as sh o (i : Int) = false → gdV as (o ++ [(i : Int)]) (tkV g as (o ++ [(i : Int)])) sh = true → IsMin b (Cm g as sh (o ++ [(i : Int)])) (grV g as sh m (o ++ [(i : Int)]) b)) (hg : gdV as o (tkV g as o) sh = true) : IsMin b (Cm g as sh (o ++ [(i : Int)])) (grF g as sh m o b i) := by
  have hgs := gd_snoc g as sh o (i : Int)
  rw [hg, Bool.true_and] at hgs
  unfold grF
  by_cases hs : skp as sh o (i : Int) = true
  · rw [if_pos hs]
    refine IsMin.same fun x ⟨r, hw, _⟩ => ?_
    unfold skp at hs
    rw [Bool.or_eq_true, decide_eq_true_eq, decide_eq_true_eq] at hs
    rcases hs with z | z
    · have hn := hw.n
      rw [List.append_assoc, List.nodup_append] at hn
      exact hn.2.2 _ z _ (List.mem_append_left _ (List.mem_singleton.mpr rfl)) rfl
    · have h1 := gd_pre g as sh _ r hw.g
      rw [hgs, Bool.and_eq_true, decide_eq_true_eq, decide_eq_true_eq] at h1
      have := h1.2
      omega
  · rw [if_neg hs]
    have hs' : skp as sh o (i : Int) = false := Bool.eq_false_iff.mpr hs
    have hpos : absV (posI as (i : Int) - (o.length : Int)) ≤ sh := by
      unfold skp at hs'
      rw [Bool.or_eq_false_iff, decide_eq_false_iff_not, decide_eq_false_iff_not] at hs'
      have := hs'.2
      omega
    rw [decide_eq_true hpos, Bool.and_true] at hgs
    by_cases ht : (decide (ltV g (arV as (i : Int)) (befV g as o) ≤ (arV as (i : Int)).2.2) && !wrs b (ltV g (arV as (i : Int)) (befV g as o))) = true
    · rw [if_pos ht]
      rw [Bool.and_eq_true] at ht
      exact ih hs' (by rw [hgs]; exact ht.1)
    · rw [if_neg ht]
      by_cases h1 : decide (ltV g (arV as (i : Int)) (befV g as o) ≤ (arV as (i : Int)).2.2) = true
      · rw [h1, Bool.true_and, Bool.not_eq_true', Bool.not_eq_false] at ht
        cases b with
        | none => cases ht
        | some w =>
          have hw1 : ltV g (arV as (i : Int)) (befV g as o) > w.1 := of_decide_eq_true ht
          refine ⟨fun e => (by cases e), fun x e => .inl e, fun x e y e2 => ?_, fun x e y ⟨r, hwh, ey⟩ => ?_⟩
          · rw [← Option.some.inj e, ← Option.some.inj e2]
            exact lt_irr _
          · rw [← Option.some.inj e]
            refine lt_asym (lt_fst ?_)
            have hm : ltV g (arV as (i : Int)) (befV g as o) ∈ tkV g as (o ++ [(i : Int)] ++ r) := tk_pre g as _ r _ (by rw [tk_snoc]; exact List.mem_append_right _ (List.mem_singleton.mpr rfl))
            have := (foldl_max_mem (tkV g as (o ++ [(i : Int)] ++ r)) 0).2 _ (List.mem_cons_of_mem _ hm)
            rw [ey]
            show w.1 < mx0 (tkV g as (o ++ [(i : Int)] ++ r))
            unfold mx0
            omega
      · refine IsMin.same fun x ⟨r, hw, _⟩ => ?_
        have h2 := gd_pre g as sh _ r hw.g
        rw [hgs] at h2
        exact h1 h2
theorem gr_min {g : Gap} {as : List Arr} {sh : Int} (ha : ∀ a ∈ as, ArrOk a) : ∀ (m : Nat) (o : List Int) (b : Option Rk), o.length + m = as.length → o.Nodup → (∀ i ∈ o, InR as.length i) → gdV as o (tkV g as o) sh = true → IsMin b (Cm g as sh o) (grV g as sh m o b)
  | 0, o, b, hl, hn, hi, hg => by
    refine (upd_min b (rkV g as o)).congr fun x => ⟨fun e => ⟨[], ⟨by rw [List.append_nil]; omega, by rw [List.append_nil]; exact hn, by rw [List.append_nil]; exact hi, by rw [List.append_nil]; exact hg⟩, by rw [List.append_nil]; exact e⟩, fun ⟨r, hw, e⟩ => ?_⟩
    have h1 := hw.l
    rw [List.length_append] at h1
    have : r = [] := List.eq_nil_of_length_eq_zero (by omega)
    rw [this, List.append_nil] at e
    exact e
  | m + 1, o, b, hl, hn, hi, hg => by
    rw [gr_succ]
    have key : ∀ k, k ≤ as.length → IsMin b (fun x => ∃ i : Nat, i < k ∧ Cm g as sh (o ++ [(i : Int)]) x) ((List.range k).foldl (grF g as sh m o) b) := fun k => by
      induction k with
      | zero => exact fun _ => IsMin.same fun x ⟨i, h, _⟩ => absurd h (Nat.not_lt_zero _)
      | succ k ihk =>
        intro hk
        rw [List.range_succ, List.foldl_append]
        have h1 := ihk (by omega)
        have h2 : IsMin ((List.range k).foldl (grF g as sh m o) b) (Cm g as sh (o ++ [(k : Int)])) (grF g as sh m o ((List.range k).foldl (grF g as sh m o) b) k) := step_min ha (by omega) (fun hs hgd => by
          have hno : (k : Int) ∉ o := by
            unfold skp at hs
            rw [Bool.or_eq_false_iff, decide_eq_false_iff_not] at hs
            exact hs.1
          refine gr_min ha m _ _ (by rw [List.length_append]; show o.length + 1 + m = _; omega) ?_ (fun j hj => ?_) hgd
          · rw [List.nodup_append]
            refine ⟨hn, List.nodup_cons.mpr ⟨List.not_mem_nil, List.nodup_nil⟩, fun a ha2 c hc => ?_⟩
            rw [List.mem_singleton.mp hc]
            intro e
            rw [e] at ha2
            exact hno ha2
          · rcases List.mem_append.mp hj with z | z
            · exact hi j z
            · rw [List.mem_singleton.mp z]
              exact ⟨by omega, by omega⟩) hg
        refine (h1.comb h2).congr fun x => ⟨fun h => ?_, fun ⟨i, h3, h4⟩ => ?_⟩
        · rcases h with ⟨i, h3, h4⟩ | h3
          · exact ⟨i, by omega, h4⟩
          · exact ⟨k, by omega, h3⟩
        · by_cases e : i = k
          · subst e; exact .inr h4
          · exact .inl ⟨i, by omega, h4⟩
    exact (key as.length (Nat.le_refl _)).congr fun x => (cm_split (by omega)).symm
theorem rks_mem {g : Gap} {as : List Arr} {sh : Int} {x : Rk} : x ∈ rksV g as sh ↔ Cm g as sh [] x := by
  unfold rksV
  rw [List.mem_map]
  constructor
  · rintro ⟨o, ho, e⟩
    obtain ⟨h1, h2⟩ := List.mem_filter.mp ho
    obtain ⟨a1, a2, a3⟩ := ords_mem.mp h1
    exact ⟨o, ⟨a1, a2, a3, h2⟩, e.symm⟩
  · rintro ⟨r, hw, e⟩
    exact ⟨r, List.mem_filter.mpr ⟨ords_mem.mpr ⟨hw.l, hw.n, hw.i⟩, hw.g⟩, e.symm⟩
end Law
set_option Elab.async false
set_option linter.all false
set_option maxRecDepth 100000
set_option maxHeartbeats 4100000
set_option synthInstance.maxSize 4000
set_option synthInstance.maxHeartbeats 400000
/-! RtB: routes checked, their lengths, loops (k08). -/
namespace Law
open PySem L2 Evl Sk MP
local macro_rules | `(tactic| walk_at "sc") => `(tactic| first | omega | assumption | (with_reducible exact mulOk) | (with_reducible exact smOk) | (with_reducible exact ⟨by decide, smOk⟩) | decide | (simp only [List.length_cons, List.length_nil]; decide) | exact divOk (by omega))
abbrev rRt : Rp (List Str) := rTpv rStr
abbrev ReF (c : Str) (t : Int) : List (Str × V) := [("index", .int t), ("code", .str c)]
theorem re_msg {c : Str} {t : Int} {k : Nat} (hc : (reprText c).length ≤ 100000) (ht : Bd k t) (hk : k ≤ 1900) : ∀ v ∈ [V.str c, V.int t], MsgOk v := fun v hv => by
  rcases List.mem_cons.mp hv with z | z
  · rw [z]
    exact .inl ⟨c, rfl, hc⟩
  · rw [List.mem_singleton.mp z]
    exact msg_int ht hk
def noLeg (legs : List Leg) (r : List Str) (k : Nat) : Bool := (lgb legs (at_ r k) (at_ r (k + 1))).isNone
def flawV (legs : List Leg) (r : List Str) : Option (Str × Int) :=
  if 2 ≤ r.length ∧ r.length ≤ 16 then ((List.range (r.length - 1)).find? (noLeg legs r)).map fun k : Nat => (("leg" : Str), (k : Int)) else some ("size", 0)
def hasHold (ho : List (Key × Str)) (r : List Str) (k : Nat) : Bool := (valX ho (Sum.inr (at_ r k))).isSome
def loopV (ho : List (Key × Str)) (r : List Str) (n : Int) : List Str ⊕ (Str × Str × Int) :=
  if n = 0 then .inl r else match (List.range (r.length - 1)).find? (hasHold ho r) with
    | none => .inr ("error", "hold", 0)
    | some k => if (r.length : Int) + 2 * n > 16 then .inr ("error", "size", 0) else .inl (r.take (k + 1) ++ (List.replicate n.toNat [(valX ho (Sum.inr (at_ r k))).getD "", at_ r k]).flatten ++ r.drop (k + 1))
theorem rfind_some {n : Nat} {p : Nat → Bool} {i : Nat} (h : ∀ j, j < i → p j = false) (hi : i < n) (hp : p i = true) : (List.range n).find? p = some i := by
  rw [List.find?_range_eq_some]
  exact ⟨hp, List.mem_range.mpr hi, fun j hj => by rw [h j hj]; rfl⟩
theorem rfind_none {n : Nat} {p : Nat → Bool} (h : ∀ j, j < n → p j = false) : (List.range n).find? p = none := by
  rw [List.find?_range_eq_none]
  exact fun j hj => by rw [h j hj]; rfl
theorem flaw_size {legs : List Leg} {r : List Str} (h : ¬ (2 ≤ r.length ∧ r.length ≤ 16)) : flawV legs r = some (("size" : Str), 0) := if_neg h
theorem flaw_no {legs : List Leg} {r : List Str} (h0 : 2 ≤ r.length ∧ r.length ≤ 16) (h : ∀ j, j < r.length - 1 → noLeg legs r j = false) : flawV legs r = none := by
  unfold flawV
  rw [if_pos h0, rfind_none h]
  rfl
theorem below_snoc {p : Nat → Bool} {i : Nat} (h : ∀ j, j < i → p j = false) (hp : p i = false) : ∀ j, j < i + 1 → p j = false := fun j hj => by
  by_cases e : j = i
  · rw [e]
    exact hp
  · exact h j (by omega)
theorem cut_to {α : Type} (xs : List α) (k : Nat) (h : k ≤ xs.length) : cutL xs none (some (k : Int)) = xs.take k := by
  unfold cutL
  have e1 : HT.sIx xs.length xs.length (some (k : Int)) = k := by
    show (if (k : Int) < 0 then ((k : Int) + (xs.length : Int)).toNat else min (k : Int).toNat xs.length) = _
    rw [if_neg (by omega)]
    omega
  rw [e1]
  show (xs.drop 0).take (k - 0) = _
  rw [List.drop_zero, Nat.sub_zero]
theorem cut_last {α : Type} (xs : List α) (h : 1 ≤ xs.length) : cutL xs none (some (-1)) = xs.take (xs.length - 1) := by
  unfold cutL
  have e1 : HT.sIx xs.length xs.length (some (-1)) = xs.length - 1 := by
    show (if (-1 : Int) < 0 then ((-1 : Int) + (xs.length : Int)).toNat else min (-1 : Int).toNat xs.length) = _
    rw [if_pos (by decide)]
    omega
  rw [e1]
  show (xs.drop 0).take (xs.length - 1 - 0) = _
  rw [List.drop_zero, Nat.sub_zero]
end Law
set_option Elab.async false
set_option linter.all false
set_option maxRecDepth 100000
set_option maxHeartbeats 4100000
set_option synthInstance.maxSize 4000
set_option synthInstance.maxHeartbeats 400000
/-! RtC: lengths of routes, loops (k08). -/
namespace Law
open PySem L2 Evl Sk MP
local macro_rules | `(tactic| walk_at "sc") => `(tactic| first | omega | assumption | (with_reducible exact mulOk) | (with_reducible exact smOk) | (with_reducible exact ⟨by decide, smOk⟩) | decide | (simp only [List.length_cons, List.length_nil]; decide) | exact divOk (by omega))
abbrev lnP (fx : Fx) (p : Str × Str) : Int := ln fx p.1 p.2
theorem nw_from {n k : Nat} (hk : 1 ≤ k) (hn : k ≤ n) : ¬ (HT.sIx n 0 (some (k : Int)) = 0 ∧ HT.sIx n n none = n) := fun z => by
  have e : (if (k : Int) < 0 then ((k : Int) + (n : Int)).toNat else min (k : Int).toNat n) = 0 := z.1
  rw [if_neg (by omega)] at e
  omega
theorem nw_to {n k : Nat} (hk : k < n) : ¬ (HT.sIx n 0 none = 0 ∧ HT.sIx n n (some (k : Int)) = n) := fun z => by
  have e : (if (k : Int) < 0 then ((k : Int) + (n : Int)).toNat else min (k : Int).toNat n) = n := z.2
  rw [if_neg (by omega)] at e
  omega
theorem nw_last {n : Nat} (hn : 1 ≤ n) : ¬ (HT.sIx n 0 none = 0 ∧ HT.sIx n n (some (-1)) = n) := fun z => by
  have e : (if (-1 : Int) < 0 then ((-1 : Int) + (n : Int)).toNat else min (-1 : Int).toNat n) = n := z.2
  rw [if_pos (by decide)] at e
  omega
theorem loop_0 {ho : List (Key × Str)} {r : List Str} : loopV ho r 0 = .inl r := if_pos rfl
theorem loop_no {ho : List (Key × Str)} {r : List Str} {n : Int} (hn : n ≠ 0) (h : ∀ j, j < r.length - 1 → hasHold ho r j = false) : loopV ho r n = .inr ("error", "hold", 0) := by
  unfold loopV
  rw [if_neg hn, rfind_none h]
theorem loop_big {ho : List (Key × Str)} {r : List Str} {n : Int} {i : Nat} (hn : n ≠ 0) (h : ∀ j, j < i → hasHold ho r j = false) (hi : i < r.length - 1) (hp : hasHold ho r i = true) (hb : (r.length : Int) + 2 * n > 16) : loopV ho r n = .inr ("error", "size", 0) := by
  unfold loopV
  rw [if_neg hn, rfind_some h hi hp]
  dsimp only
  rw [if_pos hb]
theorem loop_ok {ho : List (Key × Str)} {r : List Str} {n : Int} {i : Nat} {m : Str} (hn : n ≠ 0) (h : ∀ j, j < i → hasHold ho r j = false) (hi : i < r.length - 1) (hp : valX ho (Sum.inr (at_ r i)) = some m) (hb : ¬ (r.length : Int) + 2 * n > 16) : loopV ho r n = .inl (r.take (i + 1) ++ (List.replicate n.toNat [m, at_ r i]).flatten ++ r.drop (i + 1)) := by
  unfold loopV
  rw [if_neg hn, rfind_some h hi (by unfold hasHold; rw [hp]; rfl)]
  dsimp only
  rw [if_neg hb, hp]
  rfl
theorem rep_ne {n : Int} {a b : Str} (h : 1 ≤ n) : (List.replicate n.toNat [a, b]).flatten ≠ [] := by
  obtain ⟨m, hm⟩ : ∃ m : Nat, n.toNat = m + 1 := ⟨n.toNat - 1, by omega⟩
  rw [hm, List.replicate_succ, List.flatten_cons]
  exact fun z => by cases z
theorem rep_len {n : Int} {a b : Str} : (List.replicate n.toNat [a, b]).flatten.length = 2 * n.toNat := by
  generalize n.toNat = m
  induction m with
  | zero => rfl
  | succ m ih =>
    rw [List.replicate_succ, List.flatten_cons, List.length_append, ih]
    show 2 + 2 * m = _
    omega
section
variable {P : Program} {w : World} {K : PySem.W.Frag} {mg : Str → Option Value} {base : Heap}
abbrev sp_route_length (T : List Addr) (K : Fg) : Sp := spF K T (fCons rChart (fOne rRt)) (fun x => RtV x.1 x.2) rInt fun x => sumO (lnP (fxOf x.1)) (x.2.zip (x.2.drop 1))
abbrev N_route_length : List Str := ["chart", "route", "start", "end"]
theorem sc_route_length : FnScope N_route_length ["chart", "route"] (defScope s_route_length) := ⟨rfl, rfl, rfl, by decide +kernel, rfl, by decide +kernel, by decide +kernel⟩
theorem ok_route_length (N : Nm K mg) (T : Bt mg) (Y : Tb0 N base) : FnOk P w K mg base CX0 4 N.route_length.f N.route_length.fd ["chart", "route"] (sp_route_length (tsOf N) K) := by
  refine fn_g N.route_length.F N.route_lengthT.hc sc_route_length (tsOf N) fun A outer s G H E x Q fam hp hk => ?_
  obtain ⟨ch, r⟩ := x
  have hr : RtV ch r := hp
  have h2 := hr.two
  have hk' : ∀ {Γ : Gm} {y : Int}, y = sumO (lnP (fxOf ch)) (r.zip (r.drop 1)) → RT K ⟨tsOf N, _, G, H, []⟩ Γ [] rInt y _ := fun {Γ y} e => hk ⟨rfl, e⟩
  clear hk
  show DS _ K ⟨tsOf N, _, G, H, []⟩ [some ⟨rChart, ch⟩, some ⟨rRt, r⟩, none, none] [] (defBody s_route_length) _
  refine s_ret (d_gxSum (js := [2, 3]) (ra := rTup (fCons rStr (fOne rStr))) (f := lnP (fxOf ch)) [("start", 2), ("end", 3)] [2, 3] N.route_lengthT.P0 (by simp) (by exact tabF Y.route_length) (fun _ => gxOk_by (N := N_route_length) (sc := defScope s_route_length) (by decide +kernel)) T.sum (w_zipT (ra := rStr) (rb := rStr) T.zip (d_var 1 (d_slice (d_var 1 (do_at (d_int (do_no (sl_t (nw_from (k := 1) (Nat.le_refl _) (by omega)) ⟨rfl, fun gg D ys z hz => ?_, hk' ?_⟩)))))))))
  · obtain ⟨i, hi⟩ := List.getElem?_of_mem hz
    rw [show cutL r (some 1) none = r.drop 1 from cut_from r 1 (by omega)] at hi
    obtain ⟨hlt, ez⟩ := pairs_get hi
    subst ez
    refine g_tup (gs_cons (g_name 2 (gs_one (g_name 3 ?_))))
    refine d_call N.leg_length (ok_leg_length N T) (da_cons (d_var 0 (da_cons (d_var (ra := rStr) (x := at_ r i) 2 (da_one (d_var (ra := rStr) (x := at_ r (i + 1)) 3 (sw_f ⟨hr.fx _ (at_mem (by omega)), hr.fx _ (at_mem hlt)⟩ ⟨rfl, rfl⟩)))))))
  · rw [show cutL r (some 1) none = r.drop 1 from cut_from r 1 (by omega)]
abbrev sp_with_loops (E : Addr) (K : Fg) : Sp := sp0X K [] (fCons rChart (fCons rRt (fOne rInt))) (fun x => (2 ≤ x.2.1.length ∧ x.2.1.length ≤ 16) ∧ 0 ≤ x.2.2 ∧ x.2.2 ≤ 10) rRt (fun x y => loopV (hoOf x.1) x.2.1 x.2.2 = .inl y) fun x C fl => C = E ∧ ∃ c, fl = ReF c 0 ∧ loopV (hoOf x.1) x.2.1 x.2.2 = .inr ("error", c, 0)
abbrev N_with_loops : List Str := ["chart", "route", "loops", "index", "name", "loop"]
theorem sc_with_loops : FnScope N_with_loops ["chart", "route", "loops"] (defScope s_with_loops) := ⟨rfl, rfl, rfl, by decide +kernel, rfl, by decide +kernel, by decide +kernel⟩
theorem ok_with_loops (N : Nm K mg) (T : Bt mg) (hP : P.main = pM) : FnOk P w K mg base (L2.CX P w) 3 N.with_loops.f N.with_loops.fd ["chart", "route", "loops"] (sp_with_loops N.cRouteError K) := by
  refine fn_x N.with_loops.F sc_with_loops [] fun cdv A outer s G H E x Q fam hp tk hpo hk hkx => ?_
  obtain ⟨ch, r, n⟩ := x
  obtain ⟨⟨h2, h16⟩, n0, n10⟩ := hp
  dsimp only at h2 h16 n0 n10
  have hk' : ∀ {Γ : Gm} {y : List Str}, loopV (hoOf ch) r n = .inl y → RT K ⟨[], _, G, H, []⟩ Γ [] rRt y _ := fun {Γ y} e => hk ⟨rfl, e⟩
  have hx' : ∀ {Γ : Gm} {c : Str}, loopV (hoOf ch) r n = .inr ("error", c, 0) → XT K ⟨[], _, G, H, []⟩ Γ [] N.cRouteError (ReF c 0) _ := fun {Γ c} e => hkx ⟨rfl, rfl, c, rfl, e⟩
  clear hk hkx
  obtain ⟨t2, hM⟩ := T.MOST_NAMES
  have z1 : 100000 ≤ sizeLine := by decide
  have bn : Bd 10 n := Bd.of (by omega) (by omega)
  show DS _ K ⟨[], _, G, H, []⟩ [some ⟨rChart, ch⟩, some ⟨rRt, r⟩, some ⟨rInt, n⟩, none, none, none] [] (defBody s_with_loops) _
  refine s_ifP (dt_cmp (d_var 2 (d_int (o_eqI ⟨rfl, rfl⟩)))) (fun hb => ?_) (fun hb => ?_)
  · have hb := of_decide_eq_true hb
    subst hb
    exact s_ret (d_var 1 (hk' loop_0))
  have hn := of_decide_eq_false hb
  refine s_out (s_for (js := [3, 4]) (w_enumT (ra := rStr) T.enumerate (d_slice (d_var 1 (do_no (do_at (d_un (d_int (u_neg (sl_t (nw_last (by omega)) ?_))))))))))
  rw [show cutL r none (some (-1)) = r.take (r.length - 1) from cut_last r (by omega)]
  refine ⟨Unit, fun i _ => ∀ j, j < i → hasHold (hoOf ch) r j = false, fun _ => [some ⟨rChart, ch⟩, some ⟨rRt, r⟩, some ⟨rInt, n⟩, none, none, none], fun _ => [], ⟨(), fun j h => absurd h (Nat.not_lt_zero _), ⟨rfl, rfl, rfl, trivial⟩, rfl⟩, fun g i x d hx hd => ?_, fun d hd => ?_⟩
  · obtain ⟨nm, hnm, ex⟩ := enm_get.mp hx
    subst ex
    have hlt := (List.getElem?_eq_some_iff.mp hnm).1
    rw [List.length_take] at hlt
    rw [List.getElem?_take_of_lt (by omega), at_get (by omega)] at hnm
    have enm' := Option.some.inj hnm
    subst enm'
    refine g_tup (gs_cons (g_name 3 (gs_one (g_name 4 ?_))))
    dsimp only
    refine s_ifP (x := hasHold (hoOf ch) r i) (dt_inK (d_keyS (d_var (ra := rStr) (x := at_ r i) 4 (d_recP 0 4 rfl chN_nd ⟨_, rStr, hoOf ch, inferInstance, rfl, rfl⟩)))) (fun hb => ?_) (fun hb => ?_)
    · refine s_ifP (x := decide ((r.length : Int) + 2 * n > 16)) (dt_cmp (d_bin (d_callB T.len bt_len (da_one (d_var 1 (c_lenT (d_bin (d_int (d_var 2 (o_mul (by walk_at "sc") (o_add (d_globI hM (o_gt ⟨rfl, rfl⟩))))))))))))) (fun hb2 => ?_) (fun hb2 => ?_)
      · refine s_raise tk N.xRouteError (ini_RouteError N hP) (da_cons (d_str (da_one (d_int ⟨⟨rfl, by decide⟩, re_msg (k := 10) (c := "size") (t := 0) (by decide +kernel) (Bd.of (by decide) (by decide)) (by decide), xt_in (hx' (loop_big hn hd (by omega) hb (of_decide_eq_true hb2)))⟩))))
      obtain ⟨m, hm⟩ := Option.isSome_iff_exists.mp hb
      have hb2 := of_decide_eq_false hb2
      have e1 : cutL r none (some ((i : Int) + 1)) = r.take (i + 1) := cut_to r (i + 1) (by omega)
      have e2 : cutL r (some ((i : Int) + 1)) none = r.drop (i + 1) := cut_from r (i + 1) (by omega)
      refine s_out (s_set 5 (d_tpv (ra := rStr) (da_all (d_dk (rc := rStr) (d_recP 0 4 rfl chN_nd (d_keyS (d_var (ra := rStr) (x := at_ r i) 4 ⟨_, m, inferInstance, hm, (da_all (d_var (ra := rStr) (x := at_ r i) 4 (da_all0 ⟨(by walk_at "sc"), ?_⟩)))⟩)))))))
      have hA : cutL r none (some ((i : Int) + 1)) ≠ [] := fun z => by
        rw [e1] at z
        have := congrArg List.length z
        rw [List.length_take] at this
        have this : min (i + 1) r.length = 0 := this
        omega
      have hB : (List.replicate n.toNat [m, at_ r i]).flatten ≠ [] := rep_ne (by omega)
      have hC : cutL r (some ((i : Int) + 1)) none ≠ [] := fun z => by
        rw [e2] at z
        have := congrArg List.length z
        rw [List.length_drop] at this
        have this : r.length - (i + 1) = 0 := this
        omega
      have hl1 : (cutL r none (some ((i : Int) + 1))).length + (List.replicate n.toNat [m, at_ r i]).flatten.length ≤ sizeLine := by
        rw [e1, List.length_take, rep_len]
        omega
      have hl2 : (cutL r none (some ((i : Int) + 1)) ++ (List.replicate n.toNat [m, at_ r i]).flatten).length + (cutL r (some ((i : Int) + 1)) none).length ≤ sizeLine := by
        rw [e1, e2, List.length_append, List.length_take, rep_len, List.length_drop]
        omega
      refine s_ret (d_bin (d_bin (d_slice (d_var 1 (do_no (do_at (d_bin (d_var 3 (d_int (o_add (sl_t (nw_to (k := i + 1) (by omega)) (d_bin (d_var (ra := rTpv rStr) (x := [m, at_ r i]) 5 (d_var 2 (o_mulT (by simp) (by omega) (by omega) (by walk_at "sc") (o_catT hA hB hl1 (d_slice (d_var 1 (do_at (d_bin (d_var 3 (d_int (o_add (do_no (sl_t (nw_from (k := i + 1) (by omega) (by omega)) (o_catT (fun z => hB (List.append_eq_nil_iff.mp z).2) hC hl2 (rt_in (hk' ?_))))))))))))))))))))))))))))
      rw [e1, e2]
      exact loop_ok hn hd (by omega) hm hb2
    · exact s_out (s_next () (below_snoc hd hb) ⟨rfl, rfl, rfl, trivial⟩ rfl)
  · rw [enm_len, List.length_take] at hd
    refine s_raise tk N.xRouteError (ini_RouteError N hP) (da_cons (d_str (da_one (d_int ⟨⟨rfl, by decide⟩, re_msg (k := 10) (c := "hold") (t := 0) (by decide +kernel) (Bd.of (by decide) (by decide)) (by decide), hx' (loop_no hn fun j hj => hd j (by omega))⟩))))
end
end Law
set_option Elab.async false
set_option linter.all false
set_option maxRecDepth 100000
set_option maxHeartbeats 4100000
set_option synthInstance.maxSize 4000
set_option synthInstance.maxHeartbeats 400000
/-! SeQ: requests (k37). -/
namespace Law
open PySem L2 Evl Sk MP M10
abbrev Rq := Str × K5 × Str × Str × Int × Int × Int × Int
abbrev rRq : Rp Rq := rTup (fCons rStr (fCons rK5 (fCons rStr (fCons rStr (fCons rInt (fCons rInt (fCons rInt (fOne rInt))))))))
structure RqOk (r : Rq) : Prop where
  n : r.1.length ≤ 1000
  s : PyData.strOk r.1 = true
end Law
/-! RqF: routes over open legs, plainly (k22). -/
namespace Law
open PySem L2 Evl Sk MP
abbrev Rt := List Str
abbrev lst (r : Rt) : Str := at_ r (r.length - 1)
def opn (lv : Int) (s : Str) (l : Leg) : Bool := decide (l.1 = s) && (decide (l.2.2.2.1 ≤ lv) && decide (lv ≤ l.2.2.2.2))
abbrev opl (lg : List Leg) (lv : Int) (s : Str) : List Leg := lg.filter (opn lv s)
abbrev xt (r : Rt) (l : Leg) : Rt := r ++ [l.2.1]
abbrev isG (go : Str) (l : Leg) : Bool := decide (l.2.1 = go)
abbrev isN (go : Str) (r : Rt) (l : Leg) : Bool := !decide (l.2.1 = go) && !decide (l.2.1 ∈ r)
def cmpV (lg : List Leg) (lv : Int) (go : Str) (r : Rt) : List Rt := ((opl lg lv (lst r)).filter (isG go)).map (xt r)
def lngV (lg : List Leg) (lv : Int) (go : Str) (r : Rt) : List Rt := ((opl lg lv (lst r)).filter (isN go r)).map (xt r)
def grwV (lg : List Leg) (lv : Int) (st go : Str) : Nat → List Rt
  | 0 => [[st]]
  | k + 1 => (grwV lg lv st go k).flatMap (lngV lg lv go)
def dnV (lg : List Leg) (lv : Int) (st go : Str) : Nat → List Rt
  | 0 => []
  | k + 1 => dnV lg lv st go k ++ (grwV lg lv st go k).flatMap (cmpV lg lv go)
theorem fm_take {α β : Type} {f : α → β} {p : α → Bool} {xs : List α} {i : Nat} {x : α} (h : xs[i]? = some x) : ((xs.take (i + 1)).filter p).map f = ((xs.take i).filter p).map f ++ (if p x = true then [f x] else []) := by
  rw [List.take_succ, h, List.filter_append, List.map_append]
  congr 1
  show ([x].filter p).map f = _
  rw [List.filter_cons]
  split <;> rfl
theorem flm_len {α β : Type} {f : α → List β} {n : Nat} : ∀ {xs : List α}, (∀ x ∈ xs, (f x).length ≤ n) → (xs.flatMap f).length ≤ xs.length * n
  | [], _ => by simp
  | x :: xs, h => by
    rw [List.flatMap_cons, List.length_append, List.length_cons, Nat.add_mul, Nat.one_mul]
    have h1 := flm_len (xs := xs) fun y hy => h y (List.mem_cons_of_mem _ hy)
    have h2 := h x List.mem_cons_self
    omega
theorem len_sub {α : Type} {p q : α → Bool} {xs : List α} (h : ∀ x, p x = true → q x = true) : (xs.filter p).length ≤ (xs.filter q).length := by
  have e : xs.filter p = (xs.filter q).filter p := by
    rw [List.filter_filter]
    refine List.filter_congr fun x _ => ?_
    cases e : p x with
    | false => rfl
    | true => rw [h x e]; rfl
  rw [e]
  exact List.length_filter_le _ _
theorem op_len {ns : List Str} {lg : List Leg} (h : LegIn ns lg) (lv : Int) (s : Str) : (opl lg lv s).length ≤ 3 := by
  refine Nat.le_trans (len_sub (q := fun l => decide (l.1 = s)) fun l hl => ?_) (h.g s)
  unfold opn at hl
  rw [Bool.and_eq_true] at hl
  exact hl.1
theorem cmp_len {ns : List Str} {lg : List Leg} (h : LegIn ns lg) (lv : Int) (go : Str) (r : Rt) : (cmpV lg lv go r).length ≤ 3 := by
  unfold cmpV
  rw [List.length_map]
  exact Nat.le_trans (List.length_filter_le _ _) (op_len h lv _)
theorem lng_len {ns : List Str} {lg : List Leg} (h : LegIn ns lg) (lv : Int) (go : Str) (r : Rt) : (lngV lg lv go r).length ≤ 3 := by
  unfold lngV
  rw [List.length_map]
  exact Nat.le_trans (List.length_filter_le _ _) (op_len h lv _)
theorem grw_len {ns : List Str} {lg : List Leg} (h : LegIn ns lg) (lv : Int) (st go : Str) : ∀ k, (grwV lg lv st go k).length ≤ 3 ^ k
  | 0 => Nat.le_refl _
  | k + 1 => by
    have h1 := flm_len (xs := grwV lg lv st go k) fun r _ => lng_len h lv go r
    have h2 := Nat.mul_le_mul_right 3 (grw_len h lv st go k)
    show ((grwV lg lv st go k).flatMap (lngV lg lv go)).length ≤ 3 ^ k * 3
    omega
theorem grw7 {ns : List Str} {lg : List Leg} (h : LegIn ns lg) (lv : Int) (st go : Str) {k : Nat} (hk : k ≤ 7) : (grwV lg lv st go k).length ≤ 2187 := Nat.le_trans (grw_len h lv st go k) (Nat.pow_le_pow_right (n := 3) (by decide) hk)
theorem dn_len {ns : List Str} {lg : List Leg} (h : LegIn ns lg) (lv : Int) (st go : Str) : ∀ {k}, k ≤ 7 → (dnV lg lv st go k).length ≤ k * 6561
  | 0, _ => Nat.le_refl _
  | k + 1, hk => by
    have h1 := flm_len (xs := grwV lg lv st go k) fun r _ => cmp_len h lv go r
    have h2 := grw7 h lv st go (k := k) (by omega)
    have h3 := dn_len h lv st go (k := k) (by omega)
    show (dnV lg lv st go k ++ (grwV lg lv st go k).flatMap (cmpV lg lv go)).length ≤ _
    rw [List.length_append]
    omega
/-- a growing route -/
structure GwOk (ch : ChV) (go : Str) (k : Nat) (r : Rt) : Prop where
  w : WkOk ch r
  l : r.length = k + 1
  g : go ∉ r
theorem wk_one {ch : ChV} {st : Str} (h : ∃ p, valX (fxOf ch) (Sum.inr st) = some p ∧ PtOk p) : WkOk ch [st] where
  one := Nat.le_refl _
  fx := fun n hn => by rw [List.mem_singleton.mp hn]; exact h
  lg := fun k hk => absurd hk (by show ¬ k + 1 < 1; omega)
theorem op_mem {lg : List Leg} {lv : Int} {s : Str} {l : Leg} (h : l ∈ opl lg lv s) : l ∈ lg ∧ l.1 = s := by
  obtain ⟨h1, h2⟩ := List.mem_filter.mp h
  unfold opn at h2
  rw [Bool.and_eq_true] at h2
  exact ⟨h1, of_decide_eq_true h2.1⟩
theorem grw_ok {ch : ChV} (hc : ChOk ch) {lv : Int} {st go : Str} (hs : ∃ p, valX (fxOf ch) (Sum.inr st) = some p ∧ PtOk p) (hn : st ≠ go) : ∀ {k : Nat}, ∀ r ∈ grwV (lgOf ch) lv st go k, GwOk ch go k r
  | 0, r, hr => by
    have e : r = [st] := List.mem_singleton.mp hr
    subst e
    exact ⟨wk_one hs, rfl, fun z => hn (List.mem_singleton.mp z).symm⟩
  | k + 1, r, hr => by
    obtain ⟨q, hq, hr⟩ := List.mem_flatMap.mp hr
    have hq := grw_ok hc hs hn q hq
    obtain ⟨l, hl, e⟩ := List.mem_map.mp hr
    obtain ⟨h1, h2⟩ := List.mem_filter.mp hl
    obtain ⟨h3, h4⟩ := op_mem h1
    subst e
    refine ⟨hq.w.snoc hc h3 h4, by show (q ++ [_]).length = _; rw [List.length_append, hq.l]; rfl, fun z => ?_⟩
    rcases List.mem_append.mp z with z | z
    · exact hq.g z
    · rw [Bool.and_eq_true, Bool.not_eq_true', decide_eq_false_iff_not] at h2
      exact h2.1 (List.mem_singleton.mp z).symm
/-- a route that is done -/
structure DnOk (ch : ChV) (k : Nat) (r : Rt) : Prop where
  w : WkOk ch r
  l : 2 ≤ r.length
  m : r.length ≤ k + 1
theorem DnOk.rt {ch : ChV} {k : Nat} {r : Rt} (h : DnOk ch k r) (hk : k ≤ 900) : RtV ch r := ⟨h.l, by have := h.m; omega, h.w.fx, h.w.lg⟩
theorem dn_ok {ch : ChV} (hc : ChOk ch) {lv : Int} {st go : Str} (hs : ∃ p, valX (fxOf ch) (Sum.inr st) = some p ∧ PtOk p) (hn : st ≠ go) : ∀ {k : Nat}, ∀ r ∈ dnV (lgOf ch) lv st go k, DnOk ch k r
  | 0, r, hr => absurd hr List.not_mem_nil
  | k + 1, r, hr => by
    rcases List.mem_append.mp hr with z | z
    · have := dn_ok hc hs hn r z
      exact ⟨this.w, this.l, Nat.le_succ_of_le this.m⟩
    · obtain ⟨q, hq, hr⟩ := List.mem_flatMap.mp z
      have hq := grw_ok hc hs hn q hq
      obtain ⟨l, hl, e⟩ := List.mem_map.mp hr
      obtain ⟨h1, _⟩ := List.mem_filter.mp hl
      obtain ⟨h3, h4⟩ := op_mem h1
      subst e
      have hl := hq.l
      have e2 : (q ++ [l.2.1]).length = k + 2 := by rw [List.length_append, hl]; rfl
      exact ⟨hq.w.snoc hc h3 h4, by show 2 ≤ (q ++ [l.2.1]).length; omega, by show (q ++ [l.2.1]).length ≤ _; omega⟩
abbrev Rk3 := Int × Int × Rt
abbrev rRk3 : Rp Rk3 := rTup (fCons rInt (fCons rInt (fOne rRt)))
abbrev eRk3 : Rk3 → PyData := fun x => .tuple [.int x.1, .int x.2.1, .tuple (x.2.2.map .str)]
abbrev rk3 (c : ChV) (r : Rt) : Rk3 := (sumO (lnP (fxOf c)) (r.zip (r.drop 1)), (r.length : Int), r)
def allV (c : ChV) (lv : Int) (st go : Str) : List Rk3 := ((dnV (lgOf c) lv st go 7).map (rk3 c)).mergeSort (PySem.W.dataLe false eRk3)
theorem all_mem {c : ChV} {lv : Int} {st go : Str} {x : Rk3} : x ∈ allV c lv st go ↔ ∃ r ∈ dnV (lgOf c) lv st go 7, rk3 c r = x := by
  unfold allV
  rw [List.mem_mergeSort, List.mem_map]
theorem all_len {c : ChV} {ns : List Str} (h : LegIn ns (lgOf c)) (lv : Int) (st go : Str) : (allV c lv st go).length ≤ 45927 := by
  unfold allV
  rw [List.length_mergeSort, List.length_map]
  exact dn_len h lv st go (k := 7) (by decide)
end Law
set_option Elab.async false
set_option linter.all false
set_option maxRecDepth 100000
set_option maxHeartbeats 1500000
set_option synthInstance.maxSize 4000
set_option synthInstance.maxHeartbeats 400000
/-! RqG: open legs, alternatives (k22). -/
namespace Law
open PySem L2 Evl Sk MP
local macro_rules | `(tactic| walk_at "sc") => `(tactic| first | omega | assumption | trivial | (with_reducible exact mulOk) | (with_reducible exact smOk) | (with_reducible exact ⟨by decide, smOk⟩) | (with_reducible exact ⟨by omega, smOk⟩) | decide | rfl | (simp only [List.length_cons, List.length_nil]; decide) | exact divOk (by omega))
theorem cut_len {α : Type} (xs : List α) (l h : Option Int) : (cutL xs l h).length ≤ xs.length := by
  unfold cutL
  rw [List.length_take, List.length_drop]
  omega
section
variable {P : Program} {w : World} {K : PySem.W.Frag} {mg : Str → Option Value} {base : Heap}
abbrev sp_open_legs (K : Fg) : Sp := spF K [] (fCons rChart (fCons rStr (fOne rInt))) (fun x => (lgOf x.1).length ≤ 1000) (rLst rLeg) fun x => opl (lgOf x.1) x.2.2 x.2.1
abbrev N_open_legs : List Str := ["chart", "start", "level", "leg"]
theorem sc_open_legs : FnScope N_open_legs ["chart", "start", "level"] (defScope s_open_legs) := ⟨rfl, rfl, rfl, by decide +kernel, rfl, by decide +kernel, by decide +kernel⟩
theorem ok_open_legs (N : Nm K mg) (T : Bt mg) : FnOk P w K mg base CX0 1 N.open_legs.f N.open_legs.fd ["chart", "start", "level"] (sp_open_legs K) := by
  refine fn_m N.open_legs.F sc_open_legs [] fun cdv A outer s G H E x Q fam hp hk => ?_
  obtain ⟨c, s, lv⟩ := x
  have hp : (lgOf c).length ≤ 1000 := hp
  have z1 : 100000 ≤ sizeLine := by decide
  have hk' : ∀ {Γ : Gm}, RT K ⟨[], _, G, H, []⟩ Γ [] (rLst rLeg) (((lgOf c).filter (opn lv s)).map fun l => l) _ := fun {Γ} => hk ⟨rfl, List.map_id' _⟩
  clear hk
  show DS _ K ⟨[], _, G, H, []⟩ [some ⟨rChart, c⟩, some ⟨rStr, s⟩, some ⟨rInt, lv⟩, none] [] (defBody s_open_legs) _
  refine s_ret (d_lcF (js := [3]) (ra := rLeg) (rb := rLeg) (f := fun l : Leg => l) (g := opn lv s) [("leg", 3)] [3] (fun _ => blkOk_by (N := N_open_legs) (sc := defScope s_open_legs) (by decide +kernel)) (w_lst (d_recP 0 1 rfl chN_nd ⟨rfl, Nat.le_trans hp (by omega), fun gg D ys l hl => (g_name 3 (dts_one (dt_then (x := opn lv s l) (dt_bool (dp_andP (x := decide (l.1 = s)) (dt_cmp (d_ix (d_var (ra := rLeg) (x := l) 3 (d_int (i_tup 0 (d_var (ra := rStr) (x := s) 1 (o_eqS ⟨rfl, rfl⟩))))))) (fun _ => dp_and1 (dt_chainP (d_ix (d_var (ra := rLeg) (x := l) 3 (d_int (i_tup 3 (d_var (ra := rInt) (x := lv) 2 (o_le ⟨rfl, rfl, fun _ => d_ix (d_var (ra := rLeg) (x := l) 3 (d_int (i_tup 4 (o_le ⟨rfl, rfl⟩))))⟩)))))))))) ⟨rfl, rfl, fun hb => d_var (ra := rLeg) (x := l) 3 ⟨rfl, rfl⟩⟩))), hk'⟩)))
abbrev sp_alternatives (T : List Addr) (K : Fg) : Sp := spF K T (fCons rChart (fCons rStr (fCons rStr (fCons rInt (fOne rInt))))) (fun x => (∃ m ns, ChQ x.1 m ns) ∧ (∃ p, valX (fxOf x.1) (Sum.inr x.2.1) = some p ∧ PtOk p) ∧ x.2.1 ≠ x.2.2.1) (rLst rRt) fun x => (cutL (allV x.1 x.2.2.2.1 x.2.1 x.2.2.1) none (some x.2.2.2.2)).map fun r => r.2.2
abbrev N_alternatives : List Str := ["chart", "start", "goal", "level", "count", "complete", "growing", "_", "longer", "route", "leg", "ranked"]
theorem sc_alternatives : FnScope N_alternatives ["chart", "start", "goal", "level", "count"] (defScope s_alternatives) := ⟨rfl, rfl, rfl, by decide +kernel, rfl, by decide +kernel, by decide +kernel⟩
theorem ok_alternatives (N : Nm K mg) (T : Bt mg) (Y : Tb0 N base) : FnOk P w K mg base CX0 5 N.alternatives.f N.alternatives.fd ["chart", "start", "goal", "level", "count"] (sp_alternatives (tsOf N) K) := by
  refine fn_m N.alternatives.F sc_alternatives (tsOf N) fun cdv A outer s G H E x Q fam hp hk => ?_
  obtain ⟨c, st, go, lv, cn⟩ := x
  obtain ⟨⟨m, ns, hc⟩, hs, hn⟩ := hp
  dsimp only at hc hs hn
  have hli := hc.li
  have hll := hc.ll
  have hco := hc.ok
  have hgo := fun k => grw_ok hco (lv := lv) hs hn (k := k)
  have hdo := dn_ok hco (lv := lv) hs hn (k := 7)
  have hal := all_len hli lv st go
  have z1 : 100000 ≤ sizeLine := by decide
  obtain ⟨t2, hM⟩ := T.MOST_SIMPLE
  have hk' : ∀ {Γ : Gm} {O : List Own}, RT K ⟨tsOf N, _, G, H, []⟩ Γ O (rLst rRt) ((cutL (allV c lv st go) none (some cn)).map fun r => r.2.2) _ := fun {Γ O} => rt_drop (hk ⟨rfl, rfl⟩)
  clear hk
  show DS _ K ⟨tsOf N, _, G, H, []⟩ [some ⟨rChart, c⟩, some ⟨rStr, st⟩, some ⟨rStr, go⟩, some ⟨rInt, lv⟩, some ⟨rInt, cn⟩, none, none, none, none, none, none, none] [] (defBody s_alternatives) _
  refine s_set 5 (d_lstO (ra := rRt) (da_all0 ⟨(by walk_at "sc"), fun q hq => ?_⟩))
  refine s_set 6 (d_lst (ra := rRt) (da_all (d_tpv (ra := rStr) (da_all (d_var (ra := rStr) (x := st) 1 (da_all0 ⟨(by walk_at "sc"), (da_all0 ⟨(by walk_at "sc"), ?_⟩)⟩))))))
  refine s_for (js := [7]) (w_rng1 T.range (d_bin (d_globI hM (d_int (o_sub ⟨by omega, ?_⟩)))))
  refine ⟨Nat, fun k d => d = k, fun d => [some ⟨rChart, c⟩, some ⟨rStr, st⟩, some ⟨rStr, go⟩, some ⟨rInt, lv⟩, some ⟨rInt, cn⟩, some ⟨rAdr, q⟩, some ⟨rLst rRt, grwV (lgOf c) lv st go d⟩, none, none, none, none, none], fun d => [⟨q, oLst rRt, dnV (lgOf c) lv st go d⟩], ⟨0, rfl, ⟨rfl, rfl, rfl, rfl, rfl, rfl, rfl, trivial⟩, rfl⟩, fun gg k x d hx hd => (g_name 7 ?_), fun d hd => ?_⟩
  · have hd : d = k := hd
    subst hd
    have hk6 : d < 7 := by have := (rgI_item hx).1; omega
    have hgr := hgo d
    have hgl := grw7 hli lv st go (k := d) (by omega)
    have hdl := dn_len hli lv st go (k := d) (by omega)
    have e1 : grwV (lgOf c) lv st go (d + 1) = (grwV (lgOf c) lv st go d).flatMap (lngV (lgOf c) lv go) := rfl
    have e2 : dnV (lgOf c) lv st go (d + 1) = dnV (lgOf c) lv st go d ++ (grwV (lgOf c) lv st go d).flatMap (cmpV (lgOf c) lv go) := rfl
    dsimp only
    generalize grwV (lgOf c) lv st go d = gs at e1 e2 hgr hgl ⊢
    generalize dnV (lgOf c) lv st go d = C0 at e2 hdl ⊢
    refine s_set 8 (d_lstO (ra := rRt) (da_all0 ⟨(by walk_at "sc"), fun p hp => ?_⟩))
    refine s_for (js := [9]) (w_lst (d_var (ra := rLst rRt) (x := gs) 6 ?_))
    refine ⟨List Rt × List Rt, fun i D => D.1 = C0 ++ (gs.take i).flatMap (cmpV (lgOf c) lv go) ∧ D.2 = (gs.take i).flatMap (lngV (lgOf c) lv go), fun _ => [some ⟨rChart, c⟩, some ⟨rStr, st⟩, some ⟨rStr, go⟩, some ⟨rInt, lv⟩, some ⟨rInt, cn⟩, some ⟨rAdr, q⟩, none, none, some ⟨rAdr, p⟩, none, none, none], fun D => [⟨p, oLst rRt, D.2⟩, ⟨q, oLst rRt, D.1⟩], ⟨(C0, []), ⟨by simp, rfl⟩, ⟨rfl, rfl, rfl, rfl, rfl, rfl, rfl, trivial⟩, rfl⟩, fun g2 i r D hx2 hD => (g_name 9 ?_), fun D hD => ?_⟩
    · obtain ⟨C, L⟩ := D
      obtain ⟨hC, hL⟩ := hD
      dsimp only at hC hL
      have hr := hgr r (List.mem_of_getElem? hx2)
      have hrl := hr.l
      have hi : i < gs.length := (List.getElem?_eq_some_iff.mp hx2).1
      have hCl : C.length ≤ 60000 := by
        have h1 := flm_len (xs := gs.take i) fun r _ => cmp_len hli lv go r
        rw [hC, List.length_append]
        rw [List.length_take] at h1
        omega
      have hLl : L.length ≤ 7000 := by
        have h1 := flm_len (xs := gs.take i) fun r _ => lng_len hli lv go r
        rw [List.length_take] at h1
        rw [hL]
        omega
      have ha : atI r (-1) = some (lst r) := atI_last (by
        rw [List.getLast?_eq_getElem?]
        exact at_get (by omega))
      have hol := op_len hli lv (lst r)
      refine s_for (js := [10]) (w_lst (d_call N.open_legs (ok_open_legs N T) (da_cons (d_var (ra := rChart) (x := c) 0 (da_cons (d_ix (d_var (ra := rRt) (x := r) 9 (d_un (d_int (u_neg (i_tpv ha (da_one (d_var (ra := rInt) (x := lv) 3 (sw_f (by dsimp only; omega) ?_))))))))))))))
      have ec : cmpV (lgOf c) lv go r = ((opl (lgOf c) lv (lst r)).filter (isG go)).map (xt r) := rfl
      have el : lngV (lgOf c) lv go r = ((opl (lgOf c) lv (lst r)).filter (isN go r)).map (xt r) := rfl
      dsimp only
      generalize opl (lgOf c) lv (lst r) = os at hol ec el ⊢
      refine ⟨List Rt × List Rt, fun j D => D.1 = C ++ ((os.take j).filter (isG go)).map (xt r) ∧ D.2 = L ++ ((os.take j).filter (isN go r)).map (xt r), fun _ => [some ⟨rChart, c⟩, some ⟨rStr, st⟩, some ⟨rStr, go⟩, some ⟨rInt, lv⟩, some ⟨rInt, cn⟩, some ⟨rAdr, q⟩, none, none, some ⟨rAdr, p⟩, some ⟨rRt, r⟩, none, none], fun D => [⟨p, oLst rRt, D.2⟩, ⟨q, oLst rRt, D.1⟩], ⟨(C, L), ⟨by simp, by simp⟩, ⟨rfl, rfl, rfl, rfl, rfl, rfl, rfl, rfl, trivial⟩, rfl⟩, fun g3 j l D hx3 hD => (g_name 10 ?_), fun D hD => ?_⟩
      · obtain ⟨C2, L2⟩ := D
        obtain ⟨hC2, hL2⟩ := hD
        dsimp only at hC2 hL2
        have hj : j < os.length := (List.getElem?_eq_some_iff.mp hx3).1
        have f1 := fm_take (f := xt r) (p := isG go) hx3
        have f2 := fm_take (f := xt r) (p := isN go r) hx3
        have hC2l : C2.length ≤ 60003 := by
          have := List.length_filter_le (isG go) (os.take j)
          rw [List.length_take] at this
          rw [hC2, List.length_append, List.length_map]
          omega
        have hL2l : L2.length ≤ 7003 := by
          have := List.length_filter_le (isN go r) (os.take j)
          rw [List.length_take] at this
          rw [hL2, List.length_append, List.length_map]
          omega
        have hrs : r.length + 1 ≤ sizeLine := by omega
        refine s_ifP (x := isG go l) (dt_cmp (d_ix (d_var (ra := rLeg) (x := l) 10 (d_int (i_tup 1 (d_var (ra := rStr) (x := go) 2 (o_eqS ⟨rfl, rfl⟩))))))) (fun hb => ?_) (fun hb => ?_)
        · have hg : l.2.1 = go := of_decide_eq_true hb
          rw [if_pos hb] at f1
          rw [if_neg (by show ¬ (!decide (l.2.1 = go) && _) = true; rw [decide_eq_true hg, Bool.not_true, Bool.false_and]; exact Bool.false_ne_true)] at f2
          refine s_expr (d_app (ra := rRt) (d_var (ra := rAdr) (x := q) 5 ⟨_, _, inferInstance, d_tpv (ra := rStr) (da_starT (d_var (ra := rRt) (x := r) 9 (da_all (d_var (ra := rStr) (x := go) 2 (da_all0 ⟨?_, ⟨_, _, inferInstance, ?_, ?_⟩⟩)))))⟩))
          · rw [List.length_append]; exact hrs
          · show C2.length < sizeLine
            omega
          · refine s_out (s_next (C2 ++ [r ++ [go]], L2) ⟨?_, ?_⟩ ⟨rfl, rfl, rfl, rfl, rfl, rfl, rfl, rfl, trivial⟩ rfl)
            · show C2 ++ [r ++ [go]] = _
              rw [f1, hC2, List.append_assoc, ← hg]
            · show L2 = _
              rw [f2, List.append_nil, hL2]
        · rw [if_neg (by rw [hb]; decide), List.append_nil] at f1
          have hg : decide (l.2.1 = go) = false := hb
          refine s_ifP (x := !decide (l.2.1 ∈ r)) (dt_cmp (d_ix (d_var (ra := rLeg) (x := l) 10 (d_int (i_tup 1 (d_var (ra := rRt) (x := r) 9 (o_notInT ⟨rfl, rfl⟩))))))) (fun hb2 => ?_) (fun hb2 => ?_)
          · rw [if_pos (by show (!decide (l.2.1 = go) && !decide (l.2.1 ∈ r)) = true; rw [hg, hb2]; rfl)] at f2
            refine s_expr (d_app (ra := rRt) (d_var (ra := rAdr) (x := p) 8 ⟨_, _, inferInstance, d_tpv (ra := rStr) (da_starT (d_var (ra := rRt) (x := r) 9 (da_all (d_ix (d_var (ra := rLeg) (x := l) 10 (d_int (i_tup 1 (da_all0 ⟨?_, ⟨_, _, inferInstance, ?_, ?_⟩⟩))))))))⟩))
            · rw [List.length_append]; exact hrs
            · show L2.length < sizeLine
              omega
            · refine s_out (s_out (s_next (C2, L2 ++ [r ++ [l.2.1]]) ⟨?_, ?_⟩ ⟨rfl, rfl, rfl, rfl, rfl, rfl, rfl, rfl, trivial⟩ rfl))
              · show C2 = _
                rw [f1, hC2]
              · show L2 ++ [r ++ [l.2.1]] = _
                rw [f2, hL2, List.append_assoc]
          · rw [if_neg (by show ¬ (!decide (l.2.1 = go) && !decide (l.2.1 ∈ r)) = true; rw [hb2, Bool.and_false]; decide), List.append_nil] at f2
            refine s_out (s_out (s_next (C2, L2) ⟨?_, ?_⟩ ⟨rfl, rfl, rfl, rfl, rfl, rfl, rfl, rfl, trivial⟩ rfl))
            · show C2 = _
              rw [f1, hC2]
            · show L2 = _
              rw [f2, hL2]
      · obtain ⟨C2, L2⟩ := D
        obtain ⟨hC2, hL2⟩ := hD
        dsimp only at hC2 hL2
        rw [List.take_length] at hC2 hL2
        refine s_next (C2, L2) ⟨?_, ?_⟩ ⟨rfl, rfl, rfl, rfl, rfl, rfl, rfl, trivial⟩ rfl
        · show C2 = _
          rw [flatMap_take hx2, ← List.append_assoc, ← hC, hC2, ec]
        · show L2 = _
          rw [flatMap_take hx2, ← hL, hL2, el]
    · obtain ⟨C, L⟩ := D
      obtain ⟨hC, hL⟩ := hD
      dsimp only at hC hL
      rw [List.take_length] at hC hL
      refine s_frz 8 hp ?_
      refine s_set 6 (d_var (ra := rLst rRt) (x := L) 8 ?_)
      rw [← e2] at hC
      rw [← e1] at hL
      subst hC hL
      exact s_next (d + 1) rfl ⟨rfl, rfl, rfl, rfl, rfl, rfl, rfl, trivial⟩ rfl
  · have hd : d = (rgI 0 1 ((8 : Int) - 1).toNat).length := hd
    rw [rgI_len] at hd
    have hd : d = 7 := hd
    subst hd
    have hdl := dn_len hli lv st go (k := 7) (by omega)
    have ea : allV c lv st go = ((dnV (lgOf c) lv st go 7).map (rk3 c)).mergeSort (PySem.W.dataLe false eRk3) := rfl
    rw [ea] at hal
    have hk2 : ∀ {Γ : Gm} {O : List Own}, RT K ⟨tsOf N, _, G, H, []⟩ Γ O (rLst rRt) ((cutL (((dnV (lgOf c) lv st go 7).map (rk3 c)).mergeSort (PySem.W.dataLe false eRk3)) none (some cn)).map fun r => r.2.2) _ := hk'
    clear ea hk'
    dsimp only
    generalize dnV (lgOf c) lv st go 7 = ds at hdl hdo hal hk2 ⊢
    refine s_frz 5 hq ?_
    refine s_set 11 (ra := rLst rRk3) (d_callB T.sorted bt_sorted (da_one (d_lcP (js := [9]) (ra := rRt) (rb := rRk3) (f := rk3 c) [("route", 9)] [9] (fun _ => blkOk_by (N := N_alternatives) (sc := defScope s_alternatives) (by decide +kernel)) (w_lst (d_var (ra := rLst rRt) (x := ds) 5 ⟨rfl, by omega, fun gg D ys r hr => ?_, c_sortX ?_⟩)))))
    · have hr := (hdo r hr).rt (by decide)
      refine g_name 9 (d_tup (da_cons (d_call N.route_length (ok_route_length N T Y) (da_cons (d_var (ra := rChart) (x := c) 0 (da_one (d_var (ra := rRt) (x := r) 9 (sw_f hr (da_cons (d_callB T.len bt_len (da_one (d_var (ra := rRt) (x := r) 9 (c_lenT (da_one (d_var (ra := rRt) (x := r) 9 ⟨rfl, rfl⟩)))))))))))))))
    generalize (ds.map (rk3 c)).mergeSort (PySem.W.dataLe false eRk3) = xs at hal hk2 ⊢
    refine s_ret (d_lcP (js := [7, 7, 9]) (ra := rRk3) (rb := rRt) (f := fun r : Rk3 => r.2.2) [("_", 7), ("route", 9)] [7, 9] (fun _ => blkOk_by (N := N_alternatives) (sc := defScope s_alternatives) (by decide +kernel)) (w_lst (d_slice (d_var (ra := rLst rRk3) (x := xs) 11 (do_no (do_at (d_var (ra := rInt) (x := cn) 4 (sl_l ⟨rfl, ?_, fun gg D ys r hr => ?_, hk2⟩))))))))
    · exact Nat.le_trans (cut_len _ _ _) (by omega)
    · refine g_tup (gs_cons (g_name 7 (gs_cons (g_name 7 (gs_one (g_name 9 (d_var (ra := rRt) (x := r.2.2) 9 ⟨rfl, rfl⟩)))))))
end
end Law
set_option Elab.async false
set_option linter.all false
set_option maxRecDepth 100000
set_option maxHeartbeats 1500000
set_option synthInstance.maxSize 4000
set_option synthInstance.maxHeartbeats 400000
/-! RqI: possible routes, menus (k22). -/
namespace Law
open PySem L2 Evl Sk MP M10
local macro_rules | `(tactic| walk_at "sc") => `(tactic| first | omega | assumption | trivial | (with_reducible exact mulOk) | (with_reducible exact smOk) | (with_reducible exact ⟨by decide, smOk⟩) | (with_reducible exact ⟨by omega, smOk⟩) | decide | rfl | (simp only [List.length_cons, List.length_nil]; decide) | exact divOk (by omega))
def difV (a b : Int) : List Int := if a = b then [a] else [a, b]
theorem dif_len (a b : Int) : (difV a b).length ≤ 2 := by
  unfold difV
  split
  · exact (by decide : 1 ≤ 2)
  · exact Nat.le_refl 2
abbrev lp1 (x : List Str ⊕ (Str × Str × Int)) : List Rt := match x with | .inl y => [y] | .inr _ => []
theorem lp1_len (x : List Str ⊕ (Str × Str × Int)) : (lp1 x).length ≤ 1 := by
  cases x
  · exact Nat.le_refl 1
  · exact Nat.zero_le 1
def lpsV (c : ChV) (r : Rt) : List Rt := [(0 : Int), 1].flatMap fun n => lp1 (loopV (hoOf c) r n)
theorem lps_len (c : ChV) (r : Rt) : (lpsV c r).length ≤ 2 := by
  unfold lpsV
  have h := lp1_len
  have := flm_len (xs := [(0 : Int), 1]) fun n _ => h (loopV (hoOf c) r n)
  exact this
abbrev altV (c : ChV) (q : Rq) : List Rt := (cutL (allV c q.2.2.2.2.1 q.2.2.1 q.2.2.2.1) none (some 2)).map fun r => r.2.2
def psbV (c : ChV) (q : Rq) : List Rt := (altV c q).flatMap (lpsV c)
abbrev Crs := Rt × Int × Int
abbrev Op := Crs × Int
abbrev rOp : Rp Op := rTup (fCons rCrs (fOne rInt))
abbrev spV (q : Rq) : List Int := difV q.2.1.2.2.1 q.2.1.2.1
abbrev tgV (q : Rq) : List Int := difV q.2.2.2.2.2.1 q.2.2.2.2.1
abbrev mn3 (e : Int) (r : Rt) (t sp : Int) : Op := ((r, sp, t), e)
def mn2 (q : Rq) (e : Int) (r : Rt) (t : Int) : List Op := (spV q).map (mn3 e r t)
def mn1 (q : Rq) (e : Int) (r : Rt) : List Op := (tgV q).flatMap (mn2 q e r)
def mn0 (q : Rq) (rs : List Rt) (e : Int) : List Op := rs.flatMap (mn1 q e)
def mnV (q : Rq) (rs : List Rt) : List Op := [(0 : Int), 8].flatMap fun d => mn0 q rs (q.2.2.2.2.2.2.1 + d)
theorem mn2_len (q : Rq) (e : Int) (r : Rt) (t : Int) : (mn2 q e r t).length ≤ 2 := by
  unfold mn2
  rw [List.length_map]
  exact dif_len _ _
theorem mn1_len (q : Rq) (e : Int) (r : Rt) : (mn1 q e r).length ≤ 4 := by
  have h := flm_len (xs := tgV q) fun t _ => mn2_len q e r t
  have h2 : (tgV q).length ≤ 2 := dif_len _ _
  show ((tgV q).flatMap (mn2 q e r)).length ≤ 4
  omega
theorem mn0_len (q : Rq) (rs : List Rt) (e : Int) : (mn0 q rs e).length ≤ rs.length * 4 := flm_len fun r _ => mn1_len q e r
theorem alt_len (c : ChV) (q : Rq) : (altV c q).length ≤ 2 := by
  rw [List.length_map]
  unfold cutL
  rw [List.length_take]
  have e : HT.sIx (allV c q.2.2.2.2.1 q.2.2.1 q.2.2.2.1).length (allV c q.2.2.2.2.1 q.2.2.1 q.2.2.2.1).length (some (2 : Int)) ≤ 2 := by
    generalize (allV c q.2.2.2.2.1 q.2.2.1 q.2.2.2.1).length = n
    show (if (2 : Int) < 0 then ((2 : Int) + (n : Int)).toNat else min (2 : Int).toNat n) ≤ 2
    rw [if_neg (by decide)]
    exact Nat.min_le_left _ _
  omega
theorem psb_len (c : ChV) (q : Rq) : (psbV c q).length ≤ 4 := by
  have h := flm_len (xs := altV c q) fun r _ => lps_len c r
  have h2 := alt_len c q
  show ((altV c q).flatMap (lpsV c)).length ≤ 4
  omega
theorem cut_mem {α : Type} {xs : List α} {l h : Option Int} {x : α} (m : x ∈ cutL xs l h) : x ∈ xs := List.mem_of_mem_drop (List.mem_of_mem_take m)
/-- a request that is asked for routes -/
structure RqR (c : ChV) (q : Rq) : Prop where
  w : ∃ m ns, ChQ c m ns
  s : ∃ p, valX (fxOf c) (Sum.inr q.2.2.1) = some p ∧ PtOk p
  n : q.2.2.1 ≠ q.2.2.2.1
theorem all_ok {c : ChV} {q : Rq} (h : RqR c q) {x : Rk3} (hx : x ∈ allV c q.2.2.2.2.1 q.2.2.1 q.2.2.2.1) : 2 ≤ x.2.2.length ∧ x.2.2.length ≤ 8 := by
  obtain ⟨⟨m, ns, hc⟩, hs, hn⟩ := h
  obtain ⟨r, hr, e⟩ := all_mem.mp hx
  have := dn_ok hc.ok hs hn r hr
  subst e
  exact ⟨this.l, this.m⟩
theorem alt_ok {c : ChV} {q : Rq} (h : RqR c q) {r : Rt} (hr : r ∈ altV c q) : 2 ≤ r.length ∧ r.length ≤ 8 := by
  obtain ⟨x, hx, e⟩ := List.mem_map.mp hr
  rw [← e]
  exact all_ok h (cut_mem hx)
section
variable {P : Program} {w : World} {K : PySem.W.Frag} {mg : Str → Option Value} {base : Heap}
abbrev sp_different (K : Fg) : Sp := spF K [] (fCons rInt (fOne rInt)) (fun _ => True) (rLst rInt) fun x => difV x.1 x.2
abbrev N_different : List Str := ["first", "second"]
theorem sc_different : FnScope N_different ["first", "second"] (defScope s_different) := ⟨rfl, rfl, rfl, by decide +kernel, rfl, by decide +kernel, by decide +kernel⟩
theorem ok_different (N : Nm K mg) (T : Bt mg) : FnOk P w K mg base CX0 1 N.different.f N.different.fd ["first", "second"] (sp_different K) := by
  refine fn_m N.different.F sc_different [] fun cdv A outer s G H E x Q fam hp hk => ?_
  obtain ⟨a, b⟩ := x
  have hk' : ∀ {Γ : Gm} {y : List Int}, difV a b = y → RT K ⟨[], _, G, H, []⟩ Γ [] (rLst rInt) y _ := fun {Γ y} e => hk ⟨rfl, e.symm⟩
  clear hk
  show DS _ K ⟨[], _, G, H, []⟩ [some ⟨rInt, a⟩, some ⟨rInt, b⟩] [] (defBody s_different) _
  refine s_ret (d_iteP (x := decide (a = b)) (dt_cmp (d_var (ra := rInt) (x := a) 0 (d_var (ra := rInt) (x := b) 1 (o_eqI ⟨rfl, rfl⟩)))) (fun hb => (d_lst (ra := rInt) (da_all (d_var (ra := rInt) (x := a) 0 (da_all0 ⟨(by walk_at "sc"), hk' ?_⟩))))) (fun hb => (d_lst (ra := rInt) (da_all (d_var (ra := rInt) (x := a) 0 (da_all (d_var (ra := rInt) (x := b) 1 (da_all0 ⟨(by walk_at "sc"), hk' ?_⟩))))))))
  · exact if_pos (of_decide_eq_true hb)
  · exact if_neg (of_decide_eq_false hb)
abbrev sp_possible_routes (T : List Addr) (K : Fg) : Sp := spF K T (fCons rChart (fOne rRq)) (fun x => RqR x.1 x.2) (rLst rRt) fun x => psbV x.1 x.2
abbrev N_possible_routes : List Str := ["chart", "request", "_", "start", "goal", "level", "routes", "route", "loops"]
theorem sc_possible_routes : FnScope N_possible_routes ["chart", "request"] (defScope s_possible_routes) := ⟨rfl, rfl, rfl, by decide +kernel, rfl, by decide +kernel, by decide +kernel⟩
theorem ok_possible_routes (N : Nm K mg) (T : Bt mg) (Y : Tb0 N base) (hP : P.main = pM) : FnOk P w K mg base CX0 6 N.possible_routes.f N.possible_routes.fd ["chart", "request"] (sp_possible_routes (tsOf N) K) := by
  refine fn_m N.possible_routes.F sc_possible_routes (tsOf N) fun cdv A outer s G H E x Q fam hp hk => ?_
  obtain ⟨c, q⟩ := x
  have hp : RqR c q := hp
  have hpc := hp.w
  have hps := hp.s
  have hpn := hp.n
  have hao := fun r (hr : r ∈ altV c q) => alt_ok hp hr
  have hal := alt_len c q
  have z1 : 100000 ≤ sizeLine := by decide
  obtain ⟨t1, hR⟩ := T.ROUTES
  obtain ⟨u, hu, hru, hcu⟩ := N.kLOOPS
  have hk' : ∀ {Γ : Gm}, RT K ⟨tsOf N, _, G, H, []⟩ Γ [] (rLst rRt) (psbV c q) _ := fun {Γ} => hk ⟨rfl, rfl⟩
  clear hk
  obtain ⟨fl, kd, st, go, lv, wa, tk, la⟩ := q
  dsimp only at hps hpn
  show DS _ K ⟨tsOf N, _, G, H, []⟩ [some ⟨rChart, c⟩, some ⟨rRq, (fl, kd, st, go, lv, wa, tk, la)⟩, none, none, none, none, none, none, none] [] (defBody s_possible_routes) _
  refine s_asg (js := [2, 2, 3, 4, 5, 2, 2, 2]) (ra := rRq) (d_var 1 (g_tup (gs_cons (g_name 2 (gs_cons (g_name 2 (gs_cons (g_name 3 (gs_cons (g_name 4 (gs_cons (g_name 5 (gs_cons (g_name 2 (gs_cons (g_name 2 (gs_one (g_name 2 ?_))))))))))))))))))
  dsimp only
  refine s_set 6 (d_lstO (ra := rRt) (da_all0 ⟨(by walk_at "sc"), fun p hp => ?_⟩))
  refine s_for (js := [7]) (w_lst (d_call N.alternatives (ok_alternatives N T Y) (da_cons (d_var (ra := rChart) (x := c) 0 (da_cons (d_var (ra := rStr) (x := st) 3 (da_cons (d_var (ra := rStr) (x := go) 4 (da_cons (d_var (ra := rInt) (x := lv) 5 (da_one (d_globI hR (sw_f ⟨hpc, hps, hpn⟩ ?_)))))))))))))
  have ep : psbV c (fl, kd, st, go, lv, wa, tk, la) = (altV c (fl, kd, st, go, lv, wa, tk, la)).flatMap (lpsV c) := rfl
  show ∃ (δ : Type), _
  generalize hal2 : altV c (fl, kd, st, go, lv, wa, tk, la) = as at hao hal ep
  have hal2 : (cutL (allV c lv st go) none (some 2)).map (fun r => r.2.2) = as := hal2
  dsimp only
  rw [hal2]
  refine ⟨List Rt, fun i D => D = (as.take i).flatMap (lpsV c), fun _ => [some ⟨rChart, c⟩, none, none, none, none, none, some ⟨rAdr, p⟩, none, none], fun D => [⟨p, oLst rRt, D⟩], ⟨[], rfl, ⟨rfl, rfl, trivial⟩, rfl⟩, fun g2 i r D hx2 hD => (g_name 7 ?_), fun D hD => ?_⟩
  · have hD : D = (as.take i).flatMap (lpsV c) := hD
    obtain ⟨hr2, hr8⟩ := hao r (List.mem_of_getElem? hx2)
    have hDl : D.length ≤ 4 := by
      have h1 := flm_len (xs := as.take i) fun r _ => lps_len c r
      rw [List.length_take] at h1
      rw [hD]
      omega
    have el : lpsV c r = [(0 : Int), 1].flatMap fun n => lp1 (loopV (hoOf c) r n) := rfl
    refine s_for (js := [8]) (w_tpv (ra := rInt) (d_glob hu hru (cdi_rep (xs := [0, 1]) hcu) ?_))
    refine ⟨List Rt, fun j E => E = D ++ (([(0 : Int), 1].take j).flatMap fun n => lp1 (loopV (hoOf c) r n)), fun _ => [some ⟨rChart, c⟩, none, none, none, none, none, some ⟨rAdr, p⟩, some ⟨rRt, r⟩, none], fun E => [⟨p, oLst rRt, E⟩], ⟨D, by simp, ⟨rfl, rfl, rfl, trivial⟩, rfl⟩, fun g3 j n E hx3 hE => (g_name 8 ?_), fun E hE => ?_⟩
    · have hE : E = D ++ (([(0 : Int), 1].take j).flatMap fun n => lp1 (loopV (hoOf c) r n)) := hE
      have ft := flatMap_take (f := fun n => lp1 (loopV (hoOf c) r n)) hx3
      have hn01 : 0 ≤ n ∧ n ≤ 10 := by
        have hm := List.mem_of_getElem? hx3
        simp only [List.mem_cons, List.not_mem_nil, or_false] at hm
        omega
      have hEl : E.length ≤ 6 := by
        have h := lp1_len
        have h2 := flm_len (xs := [(0 : Int), 1].take j) fun n _ => h (loopV (hoOf c) r n)
        rw [List.length_take] at h2
        have h3 : [(0 : Int), 1].length = 2 := rfl
        rw [hE, List.length_append]
        omega
      refine s_tryCt (by rfl) (by rfl) (by exact ⟨rfl, by decide, Or.inl N.xRouteError.m⟩) (d_app (ra := rRt) (d_var (ra := rAdr) (x := p) 6 ⟨_, _, inferInstance, d_callX ft_tk N.with_loops (ok_with_loops N T hP) (da_cons (d_var (ra := rChart) (x := c) 0 (da_cons (d_var (ra := rRt) (x := r) 7 (da_one (d_var (ra := rInt) (x := n) 8 (sw_0X ⟨⟨hr2, by dsimp only; omega⟩, hn01.1, hn01.2⟩ (fun y hy => ⟨_, _, inferInstance, ?_, ?_⟩) (fun C fl hxe => ?_))))))))⟩))
      · show E.length < sizeLine
        omega
      · have hy : loopV (hoOf c) r n = .inl y := hy
        refine s_next (E ++ [y]) ?_ ⟨rfl, rfl, rfl, trivial⟩ rfl
        show E ++ [y] = _
        rw [ft, hE, List.append_assoc, hy]
      · obtain ⟨eC, d, efl, herr⟩ := hxe
        subst eC efl
        refine xt_ct N.xRouteError.xm fun σ G H W => ⟨E, G, ?_, W.wk ⟨rfl, rfl, rfl, trivial⟩⟩
        show E = _
        rw [ft, herr, hE, List.append_nil]
    · have hE : E = D ++ (([(0 : Int), 1].take 2).flatMap fun n => lp1 (loopV (hoOf c) r n)) := hE
      refine s_next E ?_ ⟨rfl, rfl, trivial⟩ rfl
      show E = _
      rw [flatMap_take hx2, ← hD, hE, el]
      rfl
  · have hD : D = (as.take as.length).flatMap (lpsV c) := hD
    rw [List.take_length, ← ep] at hD
    subst hD
    exact s_ret (d_var (ra := rAdr) (x := p) 6 (rt_frz hp hk'))
end
end Law
set_option Elab.async false
set_option linter.all false
set_option maxRecDepth 100000
set_option maxHeartbeats 1500000
set_option synthInstance.maxSize 4000
set_option synthInstance.maxHeartbeats 400000
/-! RqJ: menus, the program's and the law's own (k22). -/
namespace Law
open PySem L2 Evl Sk MP M10
local macro_rules | `(tactic| walk_at "sc") => `(tactic| first | omega | assumption | trivial | (with_reducible exact mulOk) | (with_reducible exact smOk) | (with_reducible exact ⟨by decide, smOk⟩) | (with_reducible exact ⟨by omega, smOk⟩) | decide | rfl | (simp only [List.length_cons, List.length_nil]; decide) | exact divOk (by omega))
section
variable {P : Program} {w : World} {K : PySem.W.Frag} {mg : Str → Option Value} {base : Heap}
abbrev sp_menu (T : List Addr) (K : Fg) : Sp := spN K T (fCons rChart (fOne rRq)) (fun x => RqR x.1 x.2) (oLst rOp) fun x d => d = mnV x.2 (psbV x.1 x.2)
abbrev N_menu : List Str := ["chart", "request", "_", "kind", "level", "wanted", "tick", "options", "routes", "delay", "route", "target", "speed"]
theorem sc_menu : FnScope N_menu ["chart", "request"] (defScope s_menu) := ⟨rfl, rfl, rfl, by decide +kernel, rfl, by decide +kernel, by decide +kernel⟩
theorem ok_menu (N : Nm K mg) (T : Bt mg) (Y : Tb0 N base) (hP : P.main = pM) : FnOk P w K mg base CX0 7 N.menu.f N.menu.fd ["chart", "request"] (sp_menu (tsOf N) K) := by
  refine fn_m N.menu.F sc_menu (tsOf N) fun cdv A outer s G H E x Q fam hp hk => ?_
  obtain ⟨c, q⟩ := x
  have hp : RqR c q := hp
  have hpl := psb_len c q
  have z1 : 100000 ≤ sizeLine := by decide
  obtain ⟨u, hu, hru, hcu⟩ := N.kDELAYS
  have hk' : ∀ {Γ : Gm} {a : Addr} {d : List Op}, d = mnV q (psbV c q) → RT K ⟨tsOf N, _, G, H, []⟩ Γ [⟨a, oLst rOp, d⟩] rAdr a _ := fun {Γ a d} e => hk ⟨d, e, rfl⟩
  clear hk
  have q1 : spV q = difV q.2.1.2.2.1 q.2.1.2.1 := rfl
  have q2 : tgV q = difV q.2.2.2.2.2.1 q.2.2.2.2.1 := rfl
  show DS _ K ⟨tsOf N, _, G, H, []⟩ [some ⟨rChart, c⟩, some ⟨rRq, q⟩, none, none, none, none, none, none, none, none, none, none, none] [] (defBody s_menu) _
  refine s_asg (js := [2, 3, 2, 2, 4, 5, 6, 2]) (ra := rRq) (d_var (ra := rRq) (x := q) 1 (g_tup (gs_cons (g_name 2 (gs_cons (g_name 3 (gs_cons (g_name 2 (gs_cons (g_name 2 (gs_cons (g_name 4 (gs_cons (g_name 5 (gs_cons (g_name 6 (gs_one (g_name 2 ?_))))))))))))))))))
  refine s_set 7 (d_lstO (ra := rOp) (da_all0 ⟨(by walk_at "sc"), fun p hpM => ?_⟩))
  refine s_set 8 (d_call N.possible_routes (ok_possible_routes N T Y hP) (da_cons (d_var (ra := rChart) (x := c) 0 (da_one (d_var (ra := rRq) (x := q) 1 (sw_f hp ?_))))))
  have hmv : mnV q (psbV c q) = [(0 : Int), 8].flatMap fun d => mn0 q (psbV c q) (q.2.2.2.2.2.2.1 + d) := rfl
  rw [hmv] at hk'
  clear hmv
  generalize psbV c q = rs at hpl hk' ⊢
  refine s_for (js := [9]) (w_tpv (ra := rInt) (d_glob hu hru (cdi_rep (xs := [0, 8]) hcu) ?_))
  refine ⟨List Op, fun i D => D = ([(0 : Int), 8].take i).flatMap fun d => mn0 q rs (q.2.2.2.2.2.2.1 + d), fun _ => [some ⟨rChart, c⟩, none, none, some ⟨rK5, q.2.1⟩, some ⟨rInt, q.2.2.2.2.1⟩, some ⟨rInt, q.2.2.2.2.2.1⟩, some ⟨rInt, q.2.2.2.2.2.2.1⟩, some ⟨rAdr, p⟩, some ⟨rLst rRt, rs⟩, none, none, none, none], fun D => [⟨p, oLst rOp, D⟩], ⟨[], rfl, ⟨rfl, rfl, rfl, rfl, rfl, rfl, rfl, trivial⟩, rfl⟩, fun g1 i dl D hx1 hD => (g_name 9 ?_), fun D hD => ?_⟩
  · have hD : D = ([(0 : Int), 8].take i).flatMap fun d => mn0 q rs (q.2.2.2.2.2.2.1 + d) := hD
    have hDl : D.length ≤ 32 := by
      have h1 := flm_len (xs := [(0 : Int), 8].take i) fun d _ => mn0_len q rs (q.2.2.2.2.2.2.1 + d)
      have h2 : ([(0 : Int), 8].take i).length ≤ 2 := by rw [List.length_take]; exact Nat.min_le_right _ _
      have h3 := Nat.mul_le_mul h2 (Nat.mul_le_mul_right 4 hpl)
      rw [hD]
      omega
    refine s_for (js := [10]) (w_lst (d_var (ra := rLst rRt) (x := rs) 8 ?_))
    refine ⟨List Op, fun j F => F = D ++ (rs.take j).flatMap (mn1 q (q.2.2.2.2.2.2.1 + dl)), fun _ => [some ⟨rChart, c⟩, none, none, some ⟨rK5, q.2.1⟩, some ⟨rInt, q.2.2.2.2.1⟩, some ⟨rInt, q.2.2.2.2.2.1⟩, some ⟨rInt, q.2.2.2.2.2.2.1⟩, some ⟨rAdr, p⟩, some ⟨rLst rRt, rs⟩, some ⟨rInt, dl⟩, none, none, none], fun D => [⟨p, oLst rOp, D⟩], ⟨D, by simp, ⟨rfl, rfl, rfl, rfl, rfl, rfl, rfl, rfl, trivial⟩, rfl⟩, fun g2 j r F hx2 hF => (g_name 10 ?_), fun F hF => ?_⟩
    · have hF : F = D ++ (rs.take j).flatMap (mn1 q (q.2.2.2.2.2.2.1 + dl)) := hF
      have hFl : F.length ≤ 48 := by
        have h1 := flm_len (xs := rs.take j) fun r _ => mn1_len q (q.2.2.2.2.2.2.1 + dl) r
        rw [List.length_take] at h1
        rw [hF, List.length_append]
        omega
      refine s_for (js := [11]) (w_lst (d_call N.different (ok_different N T) (da_cons (d_var (ra := rInt) (x := q.2.2.2.2.2.1) 5 (da_one (d_var (ra := rInt) (x := q.2.2.2.2.1) 4 (sw_f trivial ?_)))))))
      have hm1 : mn1 q (q.2.2.2.2.2.2.1 + dl) r = (tgV q).flatMap (mn2 q (q.2.2.2.2.2.2.1 + dl) r) := rfl
      rw [q2] at hm1
      dsimp only
      have htl := dif_len q.2.2.2.2.2.1 q.2.2.2.2.1
      generalize difV q.2.2.2.2.2.1 q.2.2.2.2.1 = ts at htl hm1 ⊢
      refine ⟨List Op, fun k I => I = F ++ (ts.take k).flatMap (mn2 q (q.2.2.2.2.2.2.1 + dl) r), fun _ => [some ⟨rChart, c⟩, none, none, some ⟨rK5, q.2.1⟩, some ⟨rInt, q.2.2.2.2.1⟩, some ⟨rInt, q.2.2.2.2.2.1⟩, some ⟨rInt, q.2.2.2.2.2.2.1⟩, some ⟨rAdr, p⟩, some ⟨rLst rRt, rs⟩, some ⟨rInt, dl⟩, some ⟨rRt, r⟩, none, none], fun D => [⟨p, oLst rOp, D⟩], ⟨F, by simp, ⟨rfl, rfl, rfl, rfl, rfl, rfl, rfl, rfl, rfl, trivial⟩, rfl⟩, fun g3 k t I hx3 hI => (g_name 11 ?_), fun I hI => ?_⟩
      · have hI : I = F ++ (ts.take k).flatMap (mn2 q (q.2.2.2.2.2.2.1 + dl) r) := hI
        have hIl : I.length ≤ 52 := by
          have h1 := flm_len (xs := ts.take k) fun t _ => mn2_len q (q.2.2.2.2.2.2.1 + dl) r t
          rw [List.length_take] at h1
          rw [hI, List.length_append]
          omega
        refine s_for (js := [12]) (w_lst (d_call N.different (ok_different N T) (da_cons (d_ix (d_var (ra := rK5) (x := q.2.1) 3 (d_int (i_tup 2 (da_one (d_ix (d_var (ra := rK5) (x := q.2.1) 3 (d_int (i_tup 1 (sw_f trivial ?_)))))))))))))
        have hm2 : mn2 q (q.2.2.2.2.2.2.1 + dl) r t = (spV q).map (mn3 (q.2.2.2.2.2.2.1 + dl) r t) := rfl
        rw [q1] at hm2
        dsimp only
        have hsl := dif_len q.2.1.2.2.1 q.2.1.2.1
        generalize difV q.2.1.2.2.1 q.2.1.2.1 = ss at hsl hm2 ⊢
        refine ⟨List Op, fun l J => J = I ++ (ss.take l).map (mn3 (q.2.2.2.2.2.2.1 + dl) r t), fun _ => [some ⟨rChart, c⟩, none, none, some ⟨rK5, q.2.1⟩, some ⟨rInt, q.2.2.2.2.1⟩, some ⟨rInt, q.2.2.2.2.2.1⟩, some ⟨rInt, q.2.2.2.2.2.2.1⟩, some ⟨rAdr, p⟩, some ⟨rLst rRt, rs⟩, some ⟨rInt, dl⟩, some ⟨rRt, r⟩, some ⟨rInt, t⟩, none], fun D => [⟨p, oLst rOp, D⟩], ⟨I, by simp, ⟨rfl, rfl, rfl, rfl, rfl, rfl, rfl, rfl, rfl, rfl, trivial⟩, rfl⟩, fun g4 l sp J hx4 hJ => (g_name 12 ?_), fun J hJ => ?_⟩
        · have hJ : J = I ++ (ss.take l).map (mn3 (q.2.2.2.2.2.2.1 + dl) r t) := hJ
          have hJl : J.length ≤ 54 := by
            rw [hJ, List.length_append, List.length_map, List.length_take]
            omega
          refine s_expr (d_app (ra := rOp) (d_var (ra := rAdr) (x := p) 7 ⟨_, _, inferInstance, d_tup (da_cons (d_tup (da_cons (d_var (ra := rRt) (x := r) 10 (da_cons (d_var (ra := rInt) (x := sp) 12 (da_one (d_var (ra := rInt) (x := t) 11 (da_one (d_bin (d_var (ra := rInt) (x := q.2.2.2.2.2.2.1) 6 (d_var (ra := rInt) (x := dl) 9 (o_add ⟨_, _, inferInstance, ?_, ?_⟩)))))))))))))⟩))
          · show J.length < sizeLine
            omega
          · refine s_next (J ++ [mn3 (q.2.2.2.2.2.2.1 + dl) r t sp]) ?_ ⟨rfl, rfl, rfl, rfl, rfl, rfl, rfl, rfl, rfl, rfl, trivial⟩ rfl
            show J ++ [mn3 (q.2.2.2.2.2.2.1 + dl) r t sp] = _
            rw [take_snoc hx4, List.map_append, hJ, List.append_assoc]
            rfl
        · have hJ : J = I ++ (ss.take ss.length).map (mn3 (q.2.2.2.2.2.2.1 + dl) r t) := hJ
          rw [List.take_length, ← hm2] at hJ
          refine s_next J ?_ ⟨rfl, rfl, rfl, rfl, rfl, rfl, rfl, rfl, rfl, trivial⟩ rfl
          show J = _
          rw [flatMap_take hx3, ← List.append_assoc, ← hI, hJ]
      · have hI : I = F ++ (ts.take ts.length).flatMap (mn2 q (q.2.2.2.2.2.2.1 + dl) r) := hI
        rw [List.take_length, ← hm1] at hI
        refine s_next I ?_ ⟨rfl, rfl, rfl, rfl, rfl, rfl, rfl, rfl, trivial⟩ rfl
        show I = _
        rw [flatMap_take hx2, ← List.append_assoc, ← hF, hI]
    · have hF : F = D ++ (rs.take rs.length).flatMap (mn1 q (q.2.2.2.2.2.2.1 + dl)) := hF
      rw [List.take_length] at hF
      refine s_next F ?_ ⟨rfl, rfl, rfl, rfl, rfl, rfl, rfl, trivial⟩ rfl
      show F = _
      rw [flatMap_take hx1, ← hD, hF]
      rfl
  · have hD : D = ([(0 : Int), 8].take 2).flatMap fun d => mn0 q rs (q.2.2.2.2.2.2.1 + d) := hD
    exact s_ret (d_var (ra := rAdr) (x := p) 7 (hk' hD))
end
end Law
set_option Elab.async false
set_option linter.all false
set_option maxRecDepth 100000
set_option maxHeartbeats 1500000
set_option synthInstance.maxSize 4000
set_option synthInstance.maxHeartbeats 400000
/-! RqK: requests made and spoilt (k22). -/
namespace Law
open PySem L2 Evl Sk MP M10
local macro_rules | `(tactic| walk_at "sc") => `(tactic| first | omega | assumption | trivial | (with_reducible exact mulOk) | (with_reducible exact smOk) | (with_reducible exact ⟨by decide, smOk⟩) | (with_reducible exact ⟨by omega, smOk⟩) | decide | rfl | (simp only [List.length_cons, List.length_nil]; decide) | exact divOk (by omega))
/-- a request whose texts are fine -/
structure RqG (q : Rq) : Prop where
  n : q.1.length ≤ 100
  s : PyData.strOk q.1 = true
  a : PyData.strOk q.2.2.1 = true
  b : PyData.strOk q.2.2.2.1 = true
theorem RqG.ok {q : Rq} (h : RqG q) : RqOk q := ⟨Nat.le_trans h.n (by decide), h.s⟩
/-- a request that the law has made -/
structure RqX (c : ChV) (q : Rq) : Prop where
  g : RqG q
  k : KdOk q.2.1
  s : ∃ p, valX (fxOf c) (Sum.inr q.2.2.1) = some p ∧ PtOk p
  d : ∃ p, valX (fxOf c) (Sum.inr q.2.2.2.1) = some p ∧ PtOk p
  n : q.2.2.1 ≠ q.2.2.2.1
  t : 0 ≤ q.2.2.2.2.2.2.1 ∧ q.2.2.2.2.2.2.1 < 12
  l : 0 ≤ q.2.2.2.2.2.2.2 ∧ q.2.2.2.2.2.2.2 < 4
abbrev El := Str ⊕ (K5 ⊕ Int)
abbrev rEl : Rp El := rSum rStr (rSum rK5 rInt)
abbrev elsV (q : Rq) : List El := [.inl q.1, .inr (.inl q.2.1), .inl q.2.2.1, .inl q.2.2.2.1, .inr (.inr q.2.2.2.2.1), .inr (.inr q.2.2.2.2.2.1), .inr (.inr q.2.2.2.2.2.2.1), .inr (.inr q.2.2.2.2.2.2.2)]
theorem els_of {K : Fg} {G : Hp} {v : V} {q : Rq} (h : rRq.rep K G v q) : (rTpv rEl).rep K G v (elsV q) := by
  obtain ⟨a, vs, e, ht, v0, w0, e0, r0, v1, w1, e1, r1, v2, w2, e2, r2, v3, w3, e3, r3, v4, w4, e4, r4, v5, w5, e5, r5, v6, w6, e6, r6, v7, e7, r7⟩ := h
  subst e7 e6 e5 e4 e3 e2 e1 e0
  exact ⟨a, _, e, ht, r0, r1, r2, r3, r4, r5, r6, r7, trivial⟩
theorem all2_cons {α : Type} {p : V → α → Prop} {x : α} {xs : List α} : ∀ {vs : List V}, All2 p vs (x :: xs) → ∃ v ws, vs = v :: ws ∧ p v x ∧ All2 p ws xs
  | [], h => h.elim
  | v :: ws, h => ⟨v, ws, rfl, h⟩
theorem all2_nil {α : Type} {p : V → α → Prop} : ∀ {vs : List V}, All2 p vs ([] : List α) → vs = []
  | [], _ => rfl
  | _ :: _, h => h.elim
theorem els_to {K : Fg} {G : Hp} {v : V} {q : Rq} (h : (rTpv rEl).rep K G v (elsV q)) : rRq.rep K G v q := by
  obtain ⟨a, vs, e, ht, hr⟩ := h
  obtain ⟨v0, w0, e0, r0, hr⟩ := all2_cons hr
  obtain ⟨v1, w1, e1, r1, hr⟩ := all2_cons hr
  obtain ⟨v2, w2, e2, r2, hr⟩ := all2_cons hr
  obtain ⟨v3, w3, e3, r3, hr⟩ := all2_cons hr
  obtain ⟨v4, w4, e4, r4, hr⟩ := all2_cons hr
  obtain ⟨v5, w5, e5, r5, hr⟩ := all2_cons hr
  obtain ⟨v6, w6, e6, r6, hr⟩ := all2_cons hr
  obtain ⟨v7, w7, e7, r7, hr⟩ := all2_cons hr
  have e8 := all2_nil hr
  subst e8
  exact ⟨a, _, e, ht, _, _, e0, r0, _, _, e1, r1, _, _, e2, r2, _, _, e3, r3, _, _, e4, r4, _, _, e5, r5, _, _, e6, r6, _, e7, r7⟩
end Law
namespace Sk
open PySem PySem.Spec PyProof.Rows L2 Evl
end Sk
namespace Law
open PySem L2 Evl Sk MP M10
local macro_rules | `(tactic| walk_at "sc") => `(tactic| first | omega | assumption | trivial | (with_reducible exact mulOk) | (with_reducible exact smOk) | (with_reducible exact ⟨by decide, smOk⟩) | (with_reducible exact ⟨by omega, smOk⟩) | decide | rfl | (simp only [List.length_cons, List.length_nil]; decide) | exact divOk (by omega))
section
variable {P : Program} {w : World} {K : PySem.W.Frag} {mg : Str → Option Value} {base : Heap}
abbrev sp_request (K : Fg) : Sp := sp1 K [] (fCons rAdr (fCons rChart (fOne rStr))) (fun x => (∃ m ns, ChQ x.2.1 m ns) ∧ x.2.2.length ≤ 100 ∧ PyData.strOk x.2.2 = true) (fun x => ⟨x.1, oSt, ()⟩) rRq fun x y => RqX x.2.1 y
abbrev N_request : List Str := ["_law_state", "_law_chart_here", "_law_name", "_law_names_here", "_law_kind_here", "_law_start_here", "_law_goal", "_law_level", "_law_wanted", "_law_other"]
theorem sc_request : FnScope N_request ["_law_state", "_law_chart_here", "_law_name"] (defScope s_request) := ⟨rfl, rfl, rfl, by decide +kernel, rfl, by decide +kernel, by decide +kernel⟩
theorem ok_request (N : Nm K mg) (T : Bt mg) : FnOk P w K mg base CX0 4 N.request.f N.request.fd ["_law_state", "_law_chart_here", "_law_name"] (sp_request K) := by
  refine fn_m N.request.F sc_request [] fun cdv A outer s G H E x Q fam hp hk => ?_
  obtain ⟨st, c, nm⟩ := x
  obtain ⟨⟨m, ns, hc⟩, hn1, hn2⟩ := hp
  dsimp only at hc hn1 hn2
  have hk' : ∀ {Γ : Gm} {d : Rq}, RqX c d → RT K ⟨[], _, G, H, []⟩ Γ [⟨st, oSt, ()⟩] rRq d _ := fun {Γ d} e => hk ⟨rfl, e⟩
  clear hk
  have z1 : 100000 ≤ sizeLine := by decide
  have hl2 := hc.l2
  have hl12 := hc.l12
  have hso := hc.so
  show DS _ K ⟨[], _, G, H, []⟩ [some ⟨rAdr, st⟩, some ⟨rChart, c⟩, some ⟨rStr, nm⟩, none, none, none, none, none, none, none] [⟨st, oSt, ()⟩] (defBody s_request) _
  refine s_set 3 (d_callB T.sorted bt_sorted (da_one (d_recP 1 0 rfl chN_nd (c_sortedD (rb := rPt) (ks := ns) hc.ky (by omega) (fun ys hys _ => ?_)))))
  have hyl : ys.length = ns.length := hys.length_eq
  have hyn : ys.Nodup := hys.nodup_iff.mpr hc.nd
  have hyo : ∀ y ∈ ys, PyData.strOk y = true := fun y hy => hso y (hys.mem_iff.mp hy)
  refine s_set 4 (d_call N.kind (ok_kind N T) (da_one (d_var (ra := rAdr) (x := st) 0 (sw_1 (q := st) trivial (fun kd hkd => ?_)))))
  refine s_set 5 (d_call N.pick (ok_pick (ra := rStr) N T) (da_cons (d_var (ra := rAdr) (x := st) 0 (da_one (d_var (ra := rLst rStr) (x := ys) 3 (sw_1 (q := st) ⟨by dsimp only; omega, by dsimp only; omega⟩ (fun sn hsn => ?_)))))))
  have hsn : sn ∈ ys := hsn
  have hfl : 0 < (ys.filter fun o => !decide (o = sn)).length := by
    obtain ⟨o, ho1, ho2⟩ : ∃ o ∈ ys, o ≠ sn := by
      have g0 : ys[0]? = some ys[0] := List.getElem?_eq_getElem (by omega)
      have g1 : ys[1]? = some ys[1] := List.getElem?_eq_getElem (by omega)
      have hne := nd_ne hyn g0 g1 (by decide)
      by_cases e : ys[0] = sn
      · exact ⟨ys[1], List.getElem_mem _, fun z => hne (e.trans z.symm)⟩
      · exact ⟨ys[0], List.getElem_mem _, e⟩
    refine List.length_pos_of_mem (a := o) (List.mem_filter.mpr ⟨ho1, ?_⟩)
    rw [decide_eq_false ho2]
    rfl
  have hfl2 := List.length_filter_le (fun o => !decide (o = sn)) ys
  refine s_set 6 (d_call N.pick (ok_pick (ra := rStr) N T) (da_cons (d_var (ra := rAdr) (x := st) 0 (da_one (d_lcF (js := [9]) (ra := rStr) (rb := rStr) (f := fun o : Str => o) (g := fun o : Str => !decide (o = sn)) [("_law_other", 9)] [9] (fun _ => blkOk_by (N := N_request) (sc := defScope s_request) (by decide +kernel)) (w_lst (d_var (ra := rLst rStr) (x := ys) 3 ⟨rfl, by omega, fun gg D zs o ho => (g_name 9 (dts_one (dt_then (x := !decide (o = sn)) (dt_cmp (d_var (ra := rStr) (x := o) 9 (d_var (ra := rStr) (x := sn) 5 (o_neS ⟨rfl, rfl⟩)))) ⟨rfl, rfl, fun hb => d_var (ra := rStr) (x := o) 9 ⟨rfl, rfl⟩⟩))), sw_1 (q := st) ⟨by dsimp only; rw [List.length_map]; exact hfl, by dsimp only; rw [List.length_map]; omega⟩ (fun gn hgn => ?_)⟩)))))))
  have hgn : gn ∈ (ys.filter fun o => !decide (o = sn)).map fun o => o := hgn
  rw [List.map_id'] at hgn
  have hgn2 : gn ∈ ys := (List.mem_filter.mp hgn).1
  have hne : sn ≠ gn := by
    have h := (List.mem_filter.mp hgn).2
    rw [Bool.not_eq_true', decide_eq_false_iff_not] at h
    exact fun z => h z.symm
  refine s_set 7 (d_call N.pick (ok_pick (ra := rInt) N T) (da_cons (d_var (ra := rAdr) (x := st) 0 (da_one (d_lst (ra := rInt) (da_all (d_int (da_all (d_int (da_all (d_int (da_all (d_int (da_all (d_int (da_all0 ⟨(by walk_at "sc"), sw_1 (q := st) ⟨by walk_at "sc", by walk_at "sc"⟩ (fun lv hlv => ?_)⟩))))))))))))))))
  refine s_set 8 (d_call N.pick (ok_pick (ra := rInt) N T) (da_cons (d_var (ra := rAdr) (x := st) 0 (da_one (d_lst (ra := rInt) (da_all (d_var (ra := rInt) (x := lv) 7 (da_all (d_var (ra := rInt) (x := lv) 7 (da_all (d_int (da_all (d_int (da_all (d_int (da_all0 ⟨?_, sw_1 (q := st) ⟨by show 0 < 5; decide, ?_⟩ (fun wa hwa => ?_)⟩))))))))))))))))
  · show 5 ≤ sizeLine
    omega
  · show 5 ≤ sizeLine
    omega
  refine s_ret (d_tup (da_cons (d_var (ra := rStr) (x := nm) 2 (da_cons (d_var (ra := rK5) (x := kd) 4 (da_cons (d_var (ra := rStr) (x := sn) 5 (da_cons (d_var (ra := rStr) (x := gn) 6 (da_cons (d_var (ra := rInt) (x := lv) 7 (da_cons (d_var (ra := rInt) (x := wa) 8 (da_cons (d_call N.draw (ok_draw N T) (da_cons (d_var (ra := rAdr) (x := st) 0 (da_one (d_int (sw_1 (q := st) ⟨(by walk_at "sc"), (by walk_at "sc")⟩ (fun n1 hn1' => (da_one (d_call N.draw (ok_draw N T) (da_cons (d_var (ra := rAdr) (x := st) 0 (da_one (d_int (sw_1 (q := st) ⟨(by walk_at "sc"), (by walk_at "sc")⟩ (fun n2 hn2' => hk' ⟨⟨hn1, hn2, hyo _ hsn, hyo _ hgn2⟩, hkd, hc.pt (hys.mem_iff.mp hsn), hc.pt (hys.mem_iff.mp hgn2), hne, hn1', hn2'⟩)))))))))))))))))))))))))))))
end
end Law
set_option Elab.async false
set_option linter.all false
set_option maxRecDepth 100000
set_option maxHeartbeats 4100000
set_option synthInstance.maxSize 4000
set_option synthInstance.maxHeartbeats 400000
/-! RtP: loops keep a route, in plain Lean (k08). -/
namespace Law
open PySem L2 Evl Sk MP
def ChP (R : Str → Str → Prop) : List Str → Prop
  | [] => True
  | a :: t => (∀ b, t.head? = some b → R a b) ∧ ChP R t
theorem chp_app {R : Str → Str → Prop} {nm : Str} {B : List Str} : ∀ {A : List Str}, ChP R (A ++ nm :: B) ↔ ChP R (A ++ [nm]) ∧ ChP R (nm :: B)
  | [] => ⟨fun h => ⟨⟨(fun b e => nomatch e), trivial⟩, h⟩, fun h => h.2⟩
  | a :: A => by
    have hh : (A ++ nm :: B).head? = (A ++ [nm]).head? := by cases A <;> rfl
    show ((∀ b, (A ++ nm :: B).head? = some b → R a b) ∧ ChP R (A ++ nm :: B)) ↔ ((∀ b, (A ++ [nm]).head? = some b → R a b) ∧ ChP R (A ++ [nm])) ∧ ChP R (nm :: B)
    rw [hh, chp_app (A := A)]
    exact ⟨fun ⟨x, y, z⟩ => ⟨⟨x, y⟩, z⟩, fun ⟨⟨x, y⟩, z⟩ => ⟨x, y, z⟩⟩
theorem chp_ix {R : Str → Str → Prop} : ∀ {r : List Str}, ChP R r ↔ ∀ k, k + 1 < r.length → R (at_ r k) (at_ r (k + 1))
  | [] => ⟨fun _ k hk => absurd hk (Nat.not_lt_zero _), fun _ => trivial⟩
  | a :: t => by
    show ((∀ b, t.head? = some b → R a b) ∧ ChP R t) ↔ _
    rw [chp_ix (r := t)]
    constructor
    · rintro ⟨h1, h2⟩ k hk
      cases k with
      | zero =>
        cases t with
        | nil => exact absurd hk (by simp)
        | cons b t => exact h1 b rfl
      | succ k => exact h2 k (by rw [List.length_cons] at hk; omega)
    · intro h
      refine ⟨fun b hb => ?_, fun k hk => h (k + 1) (by rw [List.length_cons]; omega)⟩
      cases t with
      | nil => cases hb
      | cons c t =>
        have e : c = b := Option.some.inj hb
        subst e
        exact h 0 (by rw [List.length_cons, List.length_cons]; omega)
theorem chp_ins {R : Str → Str → Prop} {nm m : Str} {A B : List Str} (h : ChP R (A ++ nm :: B)) (h1 : R nm m) (h2 : R m nm) : ∀ n : Nat, ChP R (A ++ nm :: ((List.replicate n [m, nm]).flatten ++ B))
  | 0 => h
  | n + 1 => by
    obtain ⟨p1, p2⟩ := chp_app.mp (chp_ins h h1 h2 n)
    rw [List.replicate_succ, List.flatten_cons]
    refine chp_app.mpr ⟨p1, ?_⟩
    show ChP R (nm :: m :: nm :: ((List.replicate n [m, nm]).flatten ++ B))
    refine ⟨fun b e => ?_, fun b e => ?_, p2⟩
    · have e : m = b := Option.some.inj e
      rw [← e]
      exact h1
    · have e : nm = b := Option.some.inj e
      rw [← e]
      exact h2
/-- a route by its flaw -/
theorem flaw_iff {lg : List Leg} {r : List Str} : flawV lg r = none ↔ (2 ≤ r.length ∧ r.length ≤ 16) ∧ ChP (fun a b => ∃ l, lgb lg a b = some l) r := by
  rw [chp_ix]
  constructor
  · intro h
    by_cases h0 : 2 ≤ r.length ∧ r.length ≤ 16
    · refine ⟨h0, fun k hk => ?_⟩
      unfold flawV at h
      rw [if_pos h0, Option.map_eq_none_iff, List.find?_range_eq_none] at h
      have := h k (by omega)
      unfold noLeg at this
      rw [← Option.isSome_iff_exists]
      cases e : lgb lg (at_ r k) (at_ r (k + 1)) with
      | none => rw [e] at this; cases this
      | some l => rfl
    · rw [flaw_size h0] at h
      cases h
  · rintro ⟨h0, h⟩
    refine flaw_no h0 fun j hj => ?_
    obtain ⟨l, hl⟩ := h j (by omega)
    unfold noLeg
    rw [hl]
    rfl
theorem take_at {r : List Str} {i : Nat} (h : i < r.length) : r.take (i + 1) = r.take i ++ [at_ r i] := by
  rw [List.take_add_one, at_get h]
  rfl
theorem loops_ok {lg : List Leg} {ho : List (Key × Str)} (hho : HoAt lg ho) {r y : List Str} {n : Int} (hf : flawV lg r = none) (n0 : 0 ≤ n) (h : loopV ho r n = .inl y) : flawV lg y = none := by
  obtain ⟨⟨h2, h16⟩, hc⟩ := flaw_iff.mp hf
  unfold loopV at h
  split at h
  · rw [← Sum.inl.inj h]
    exact hf
  · rename_i hn
    split at h
    · cases h
    · rename_i i hi
      split at h
      · cases h
      · rename_i hb
        have ey := Sum.inl.inj h
        obtain ⟨p1, p2, _⟩ := List.find?_range_eq_some.mp hi
        have hi := List.mem_range.mp p2
        obtain ⟨m, hm⟩ := Option.isSome_iff_exists.mp p1
        obtain ⟨⟨l1, a1, a2, a3⟩, l2, b1, b2, b3⟩ := hho _ _ hm
        rw [hm] at ey
        have er : r = r.take i ++ at_ r i :: r.drop (i + 1) := by
          have := (List.take_append_drop (i + 1) r).symm
          rw [take_at (by omega), List.append_assoc] at this
          exact this
        rw [er] at hc
        have q1 : ∃ l, lgb lg (at_ r i) m = some l := by
          have := lgb_some a1
          rw [a2, a3] at this
          exact this
        have q2 : ∃ l, lgb lg m (at_ r i) = some l := by
          have := lgb_some b1
          rw [b2, b3] at this
          exact this
        have hz := chp_ins hc q1 q2 n.toNat
        have ey2 : y = r.take i ++ at_ r i :: ((List.replicate n.toNat [m, at_ r i]).flatten ++ r.drop (i + 1)) := by
          rw [← ey, take_at (by omega), List.append_assoc, List.append_assoc]
          rfl
        refine flaw_iff.mpr ⟨?_, by rw [ey2]; exact hz⟩
        have hl : y.length = r.length + 2 * n.toNat := by
          rw [← ey, List.length_append, List.length_append, List.length_take, List.length_drop]
          show _ + ((List.replicate n.toNat [m, at_ r i]).flatten).length + _ = _
          rw [rep_len]
          omega
        rw [hl]
        omega
theorem flaw_rt {ch : ChV} (hc : ChOk ch) {r : List Str} (h : flawV (lgOf ch) r = none) : RtV ch r := by
  obtain ⟨⟨h2, h16⟩, hch⟩ := flaw_iff.mp h
  have hl := chp_ix.mp hch
  refine ⟨h2, by omega, fun n hn => ?_, hl⟩
  obtain ⟨k, hk⟩ := List.getElem?_of_mem hn
  have hlt := (List.getElem?_eq_some_iff.mp hk).1
  have e : n = at_ r k := by
    have := at_get hlt
    rw [hk] at this
    exact Option.some.inj this
  rw [e]
  by_cases z : k + 1 < r.length
  · obtain ⟨l, q⟩ := hl k z
    obtain ⟨q1, q2, _⟩ := lgb_spec q
    rw [← q2]
    exact (hc.pts l q1).1
  · obtain ⟨l, q⟩ := hl (k - 1) (by omega)
    obtain ⟨q1, _, q3⟩ := lgb_spec q
    rw [show k - 1 + 1 = k by omega] at q3
    rw [← q3]
    exact (hc.pts l q1).2
end Law
set_option Elab.async false
set_option linter.all false
set_option maxRecDepth 100000
set_option maxHeartbeats 1500000
set_option synthInstance.maxSize 4000
set_option synthInstance.maxHeartbeats 400000
/-! SeA: the first entry of a request (k37). -/
namespace Law
open PySem L2 Evl Sk MP M10
local macro_rules | `(tactic| walk_at "sc") => `(tactic| first | omega | assumption | trivial | (with_reducible exact mulOk) | (with_reducible exact smOk) | (with_reducible exact ⟨by decide, smOk⟩) | (with_reducible exact ⟨by omega, smOk⟩) | decide | rfl | (simp only [List.length_cons, List.length_nil]; decide) | exact divOk (by omega))
theorem winE_ge {tt : Int} : ∀ {bs : List B4} {t : Int}, t ≤ winE tt t bs
  | [], t => Int.le_refl _
  | b :: bs, t => by
    unfold winE
    have := winE_ge (tt := tt) (bs := bs) (t := t + 1)
    split <;> omega
open Classical in
/-- the boxes of a tube, if there are -/
noncomputable def tbO (n : TbIn) (t : Int) (b : B4) : Option (List B4) := if h : ∃ bs, TubeOut n t b bs then some h.choose else none
theorem tbO_out {n : TbIn} {t : Int} {b : B4} {bs : List B4} (h : TubeOut n t b bs) : tbO n t b = some bs := by
  have h1 : ∃ bs, TubeOut n t b bs := ⟨bs, h⟩
  unfold tbO
  rw [dif_pos h1]
  exact congrArg some (TubeOut.eq h1.choose_spec h)
theorem tbO_err {n : TbIn} {t t' : Int} {b : B4} {c : Str} (h : TubeErr n t b c t') : tbO n t b = none := by
  unfold tbO
  rw [dif_neg fun ⟨bs, z⟩ => h.no z]
abbrev inO (c : ChV) (ru : RuV) (ws : List M10.W4) (q : Rq) (o : Op) : TbIn := ⟨fxOf c, lgOf c, o.1.1, o.1.2.1, o.1.2.2, q.2.1, slipOf ru, ws, hrOf c⟩
abbrev bxO (q : Rq) : B4 := (-q.2.2.2.2.2.2.2, 0, q.2.2.2.2.1, q.2.2.2.2.1)
noncomputable def rdO (c : ChV) (ru : RuV) (ws : List M10.W4) (q : Rq) (o : Op) : Option Int := (tbO (inO c ru ws q o) o.2 (bxO q)).map fun bs => winE (tot (fxOf c) o.1.1) o.2 bs
noncomputable def feV (c : ChV) (ru : RuV) (ws : List M10.W4) (q : Rq) : Option Int := (mnV q (psbV c q)).findSome? (rdO c ru ws q)
/-- a request in its bounds -/
structure RqB (c : ChV) (q : Rq) : Prop where
  r : RqR c q
  k : KdOk q.2.1
  t : 0 ≤ q.2.2.2.2.2.2.1 ∧ q.2.2.2.2.2.2.1 ≤ 1000
  l : 0 ≤ q.2.2.2.2.2.2.2 ∧ q.2.2.2.2.2.2.2 ≤ 1000
theorem psb_rt {c : ChV} {q : Rq} (h : RqR c q) {r : Rt} (hr : r ∈ psbV c q) : RtV c r := by
  obtain ⟨⟨m, ns, hc⟩, hs, hn⟩ := h
  obtain ⟨d, hd, hy⟩ := List.mem_flatMap.mp hr
  obtain ⟨x, hx, e⟩ := List.mem_map.mp hd
  obtain ⟨d2, hd2, e2⟩ := all_mem.mp (cut_mem hx)
  have hdn := dn_ok hc.ok hs hn d2 hd2
  have hrt := hdn.rt (by decide)
  subst e2
  have e : d2 = d := e
  subst e
  have hf : flawV (lgOf c) d2 = none := flaw_no ⟨hdn.l, by have := hdn.m; omega⟩ fun j hj => by
    obtain ⟨l, hl⟩ := hrt.lg j (by omega)
    unfold noLeg
    rw [hl]
    rfl
  obtain ⟨n, hn2, hy⟩ := List.mem_flatMap.mp hy
  cases hl : loopV (hoOf c) d2 n with
  | inl w =>
    rw [hl] at hy
    have hy : r ∈ [w] := hy
    rw [List.mem_singleton.mp hy]
    refine flaw_rt hc.ok (loops_ok hc.ho hf ?_ hl)
    simp only [List.mem_cons, List.not_mem_nil, or_false] at hn2
    omega
  | inr w =>
    rw [hl] at hy
    exact absurd (show r ∈ [] from hy) List.not_mem_nil
theorem mn_mem {q : Rq} {rs : List Rt} {o : Op} (h : o ∈ mnV q rs) : o.1.1 ∈ rs ∧ (o.2 = q.2.2.2.2.2.2.1 ∨ o.2 = q.2.2.2.2.2.2.1 + 8) := by
  obtain ⟨d, hd, ho⟩ := List.mem_flatMap.mp h
  obtain ⟨r, hr, ho⟩ := List.mem_flatMap.mp ho
  obtain ⟨t, _, ho⟩ := List.mem_flatMap.mp ho
  obtain ⟨sp, _, e⟩ := List.mem_map.mp ho
  subst e
  refine ⟨hr, ?_⟩
  simp only [List.mem_cons, List.not_mem_nil, or_false] at hd
  show q.2.2.2.2.2.2.1 + d = _ ∨ _
  rcases hd with e | e
  · rw [e]; exact .inl (Int.add_zero _)
  · rw [e]; exact .inr rfl
theorem fe_none {α β : Type} {f : α → Option β} {xs : List α} (h : ∀ (j : Nat) (x : α), xs[j]? = some x → f x = none) : xs.findSome? f = none := by
  rw [List.findSome?_eq_none_iff]
  intro x hx
  obtain ⟨j, hj⟩ := List.getElem?_of_mem hx
  exact h j x hj
theorem fe_some {α β : Type} {f : α → Option β} : ∀ {xs : List α} {i : Nat} {x : α} {y : β}, (∀ (j : Nat) (x : α), j < i → xs[j]? = some x → f x = none) → xs[i]? = some x → f x = some y → xs.findSome? f = some y
  | [], i, x, y, _, h, _ => by simp at h
  | z :: xs, 0, x, y, _, h, e => by
    have h : z = x := by simpa using h
    subst h
    rw [List.findSome?_cons, e]
  | z :: xs, i + 1, x, y, hj, h, e => by
    rw [List.findSome?_cons, hj 0 z (Nat.succ_pos _) rfl]
    exact fe_some (xs := xs) (i := i) (fun j x hj2 hx => hj (j + 1) x (by omega) (by simpa using hx)) (by simpa using h) e
theorem mnv_len (c : ChV) (q : Rq) : (mnV q (psbV c q)).length ≤ 32 := by
  have h1 := flm_len (xs := [(0 : Int), 8]) fun d _ => mn0_len q (psbV c q) (q.2.2.2.2.2.2.1 + d)
  have h2 := psb_len c q
  have h3 : [(0 : Int), 8].length = 2 := rfl
  show ([(0 : Int), 8].flatMap fun d => mn0 q (psbV c q) (q.2.2.2.2.2.2.1 + d)).length ≤ 32
  rw [h3] at h1
  omega
section
variable {P : Program} {w : World} {K : PySem.W.Frag} {mg : Str → Option Value} {base : Heap}
abbrev arV3 (q : Rq) (r : Int) : Arr := (q.2.1.1, r, r + 100)
/-- what is told beside the requests -/
structure SqI (c : ChV) (ru : RuV) (ws : List M10.W4) : Prop where
  ch : ChOk c
  h : hrOf c = []
  s : 0 ≤ slipOf ru
  w : WdOk ws
abbrev sp_first_entry (T : List Addr) (K : Fg) : Sp := spF K T (fCons rChart (fCons rRules (fCons (rLst rWnd) (fOne rRq)))) (fun x => SqI x.1 x.2.1 x.2.2.1 ∧ RqB x.1 x.2.2.2) (rOpt rArr) fun x => (feV x.1 x.2.1 x.2.2.1 x.2.2.2).map (arV3 x.2.2.2)
abbrev N_first_entry : List Str := ["chart", "rules", "winds", "request", "_", "kind", "level", "late", "course", "entry", "path", "boxes", "ready"]
theorem sc_first_entry : FnScope N_first_entry ["chart", "rules", "winds", "request"] (defScope s_first_entry) := ⟨rfl, rfl, rfl, by decide +kernel, rfl, by decide +kernel, by decide +kernel⟩
theorem ok_first_entry (N : Nm K mg) (T : Bt mg) (Y : Tb0 N base) (hP : P.main = pM) : FnOk P w K mg base CX0 8 N.first_entry.f N.first_entry.fd ["chart", "rules", "winds", "request"] (sp_first_entry (tsOf N) K) := by
  refine fn_m N.first_entry.F sc_first_entry (tsOf N) fun cdv A outer s G H E x Q fam hp hk => ?_
  obtain ⟨c, ru, ws, q⟩ := x
  obtain ⟨hi, hb⟩ := hp
  have hi : SqI c ru ws := hi
  have hb : RqB c q := hb
  have hR := hb.r
  obtain ⟨t1, hPA⟩ := T.PATIENCE
  have z1 : 100000 ≤ sizeLine := by decide
  have hch := hi.ch
  have hhr := hi.h
  have hsl := hi.s
  have hwd := hi.w
  have hbt := hb.t
  have hbl := hb.l
  have hkd := hb.k
  have hml := mnv_len c q
  have hmm : ∀ o ∈ mnV q (psbV c q), RtV c o.1.1 ∧ 0 ≤ o.2 ∧ o.2 ≤ 2000 := fun o ho => by
    obtain ⟨h1, h2⟩ := mn_mem ho
    exact ⟨psb_rt hR h1, by omega, by omega⟩
  have hk' : ∀ {Γ : Gm} {O : List Own} {y : Option Arr}, (feV c ru ws q).map (arV3 q) = y → RT K ⟨tsOf N, _, G, H, []⟩ Γ O (rOpt rArr) y _ := fun {Γ O y} e => rt_drop (hk ⟨rfl, e.symm⟩)
  clear hk
  have hfe : feV c ru ws q = (mnV q (psbV c q)).findSome? (rdO c ru ws q) := rfl
  show DS _ K ⟨tsOf N, _, G, H, []⟩ [some ⟨rChart, c⟩, some ⟨rRules, ru⟩, some ⟨rLst rWnd, ws⟩, some ⟨rRq, q⟩, none, none, none, none, none, none, none, none, none] [] (defBody s_first_entry) _
  refine s_asg (js := [4, 5, 4, 4, 6, 4, 4, 7]) (ra := rRq) (d_var (ra := rRq) (x := q) 3 (g_tup (gs_cons (g_name 4 (gs_cons (g_name 5 (gs_cons (g_name 4 (gs_cons (g_name 4 (gs_cons (g_name 6 (gs_cons (g_name 4 (gs_cons (g_name 4 (gs_one (g_name 7 ?_))))))))))))))))))
  refine s_for (js := [8, 9]) (w_lst (ra := rOp) (d_frzE (ra := rOp) (d_call N.menu (ok_menu N T Y hP) (da_cons (d_var (ra := rChart) (x := c) 0 (da_one (d_var (ra := rRq) (x := q) 3 (sw_nF hR (fun p d hd hM => ⟨d, _, rfl, hM, ?_⟩)))))))))
  have hd : d = mnV q (psbV c q) := hd
  subst hd
  generalize mnV q (psbV c q) = os at hml hmm hfe ⊢
  refine ⟨Unit, fun i _ => ∀ (j : Nat) (o : Op), j < i → os[j]? = some o → rdO c ru ws q o = none, fun _ => [some ⟨rChart, c⟩, some ⟨rRules, ru⟩, some ⟨rLst rWnd, ws⟩, none, none, some ⟨rK5, q.2.1⟩, some ⟨rInt, q.2.2.2.2.1⟩, some ⟨rInt, q.2.2.2.2.2.2.2⟩, none, none, none, none, none], fun _ => [], ⟨(), fun j o h => absurd h (Nat.not_lt_zero _), ⟨rfl, rfl, rfl, rfl, rfl, rfl, trivial⟩, rfl⟩, fun gg i o d hx hd => ?_, fun d hd => ?_⟩
  · obtain ⟨ho1, ho2, ho3⟩ := hmm o (List.mem_of_getElem? hx)
    refine g_tup (gs_cons (g_name 8 (gs_one (g_name 9 ?_))))
    obtain ⟨⟨r, sp, lv⟩, en⟩ := o
    dsimp only at ho1 ho2 ho3 ⊢
    have hst := ho1.strict hch
    refine s_set 10 (d_re (x := fun _ _ => True) (rc := rPath N.cPath) (ra := rIns N.cPath ns_Path pF) (d_done (r := oIns N.cPath ns_Path pF) (d_make N.iPath (ok_Path_init N T) (da_cons (d_var (ra := rChart) (x := c) 0 (da_one (d_ix (d_var (ra := rCrs) (x := (r, sp, lv)) 8 (d_int (i_tup 0 (fun p hp => sw_m _ ho1 (fun w hw => hw) (fun z => z) (fun y O' hy => ⟨mkP c r, [], by rw [hy]; rfl, hp, ((c, r) : PR), fun h => h, ?_⟩))))))))))))
    have tbo : TbOk ((c, (c, r), (r, sp, lv), q.2.1, ru, ws, en, bxO q) : TbA) := ⟨ho1, hst, by show (hrOf c).length ≤ 1000; rw [hhr]; exact Nat.zero_le _, hwd, hkd.m.1, hsl, by dsimp only; omega, ⟨by dsimp only; omega, Int.le_refl _⟩⟩
    refine s_trySetCt 11 (by rfl) (by rfl) (by exact ⟨rfl, by decide, Or.inl N.xCourseError.m⟩) (d_callX ft_tk N.tube (ok_tube N T hP) (da_cons (d_var (ra := rChart) (x := c) 0 (da_cons (d_var (ra := rPath N.cPath) (x := (c, r)) 10 (da_cons (d_var (ra := rCrs) (x := (r, sp, lv)) 8 (da_cons (d_var (ra := rK5) (x := q.2.1) 5 (da_cons (d_var (ra := rRules) (x := ru) 1 (da_cons (d_var (ra := rLst rWnd) (x := ws) 2 (da_cons (d_var (ra := rInt) (x := en) 9 (da_one (d_tup (da_cons (d_un (d_var (ra := rInt) (x := q.2.2.2.2.2.2.2) 7 (u_neg (da_cons (d_int (da_cons (d_var (ra := rInt) (x := q.2.2.2.2.1) 6 (da_one (d_var (ra := rInt) (x := q.2.2.2.2.1) 6 (sw_nXF tbo (fun qb bs hout hqb => ?_) (fun C fl hxe => ?_)))))))))))))))))))))))))))))
    · have hout : TubeOut (inO c ru ws q ((r, sp, lv), en)) en (bxO q) bs := hout
      have hrd : rdO c ru ws q ((r, sp, lv), en) = some (winE (tot (fxOf c) r) en bs) := by
        unfold rdO
        rw [tbO_out hout]
        rfl
      have hfs := fe_some hd hx hrd
      rw [← hfe] at hfs
      rw [hfs] at hk'
      refine s_set 12 (d_ix (d_call N.window (ok_windowO N T) (da_cons (d_var (ra := rPath N.cPath) (x := (c, r)) 10 (da_cons (d_var (ra := rInt) (x := en) 9 (da_one (d_gh bs (d_var (ra := rAdr) (x := qb) 11 (sw_1 (q := qb) ho1 (fun y hy => d_int (i_tup 0 ?_))))))))))))
      have hy : y = (winE (tot (fxOf c) r) en bs, en + (bs.length : Int)) := hy
      subst hy
      dsimp only
      generalize winE (tot (fxOf c) r) en bs = wv at hk'
      refine s_ret (d_some (ra := rArr) (d_tup (da_cons (d_ix (d_var (ra := rK5) (x := q.2.1) 5 (d_int (i_tup 0 (da_cons (d_var (ra := rInt) (x := wv) 12 (da_one (d_bin (d_var (ra := rInt) (x := wv) 12 (d_globI hPA (o_add (rt_in (hk' rfl))))))))))))))))
    · obtain ⟨eC, cc, t', efl, herr⟩ := hxe
      subst eC efl
      have herr : TubeErr (inO c ru ws q ((r, sp, lv), en)) en (bxO q) cc t' := herr
      refine xt_ct N.xCourseError.xm fun σ G H W => ⟨(), G, fun j o hj ho => ?_, W.wk ⟨rfl, rfl, rfl, rfl, rfl, rfl, trivial⟩⟩
      by_cases e : j = i
      · subst e
        rw [hx] at ho
        have ho := Option.some.inj ho
        subst ho
        unfold rdO
        rw [tbO_err herr]
        rfl
      · exact hd j o (by omega) ho
  · have hfn : feV c ru ws q = none := by
      rw [hfe]
      exact fe_none fun j o hj => hd j o (List.getElem?_eq_some_iff.mp hj).1 hj
    exact s_ret (d_none (hk' (by rw [hfn]; rfl)))
end
end Law
set_option Elab.async false
set_option linter.all false
set_option maxRecDepth 100000
set_option maxHeartbeats 1000000
/-! SeP: the law's own best order is the search's (k37), plain Lean. -/
namespace Law
open PySem L2 Evl Sk
open PyProof.Rows (lexLt lex_irrefl lex_negTrans lex_total itemOrd)
open PySem.W (keyToks keyToksAll dataLt toks_eqv alike lex_pre)
abbrev R3 := Int × Int × List Int
abbrev rR3 : Rp R3 := rTup (fCons rInt (fCons rInt (fOne rOrd)))
abbrev eR3 : R3 → PyData := fun x => .tuple [.int x.1, .int x.2.1, .tuple (x.2.2.map .int)]
abbrev p3 (x : Rk) : R3 := (x.1, x.2.1, x.2.2.1)
def lt3 (x y : R3) : Bool := dataLt (eR3 x) (eR3 y)
theorem lt3_irr (x : R3) : lt3 x x = false := lex_irrefl (O := itemOrd) _
theorem lt3_tot {x y : R3} (h1 : lt3 x y = false) (h2 : lt3 y x = false) : x = y := by
  have e : keyToks (eR3 x) = keyToks (eR3 y) := lex_total (O := itemOrd) _ _ h1 h2
  have ha : alike (eR3 x) (eR3 y) = true := (inferInstance : Alk rR3 eR3).al x y
  have hv : PyData.eqv (eR3 x) (eR3 y) = true := by
    cases hc : PyData.eqv (eR3 x) (eR3 y) with
    | true => rfl
    | false =>
      have h := (toks_eqv (eR3 x) (eR3 y) ha).2 hc [] [Sum.inl 0]
      rw [e, lex_pre, lex_irrefl] at h
      exact absurd h (by decide)
  exact ((inferInstance : Dat rR3 eR3 _ _).eqv x y).mp hv
theorem lt3_of {x y : Rk} (h : lt3 (p3 x) (p3 y) = true) : ltR x y = true := by
  unfold lt3 at h
  unfold ltR
  show dataLt (PyData.tuple _) (PyData.tuple _) = true
  have h : dataLt (PyData.tuple _) (PyData.tuple _) = true := h
  rw [PySem.W.dataLt_tuple] at h ⊢
  have a1 : alike (PyData.int x.1) (PyData.int y.1) = true := by simp [alike]
  have a2 : alike (PyData.int x.2.1) (PyData.int y.2.1) = true := by simp [alike]
  have a3 : alike (PyData.tuple (x.2.2.1.map .int)) (PyData.tuple (y.2.2.1.map .int)) = true := (inferInstance : Alk rOrd fun xs => PyData.tuple (xs.map PyData.int)).al x.2.2.1 y.2.2.1
  cases e1 : PyData.eqv (PyData.int x.1) (PyData.int y.1) with
  | false =>
    rw [PySem.W.dataLt_all_no a1 e1] at h ⊢
    exact h
  | true =>
    rw [PySem.W.dataLt_all_yes a1 e1] at h ⊢
    cases e2 : PyData.eqv (PyData.int x.2.1) (PyData.int y.2.1) with
    | false =>
      rw [PySem.W.dataLt_all_no a2 e2] at h ⊢
      exact h
    | true =>
      rw [PySem.W.dataLt_all_yes a2 e2] at h ⊢
      cases e3 : PyData.eqv (PyData.tuple (x.2.2.1.map .int)) (PyData.tuple (y.2.2.1.map .int)) with
      | false =>
        rw [PySem.W.dataLt_all_no a3 e3] at h ⊢
        exact h
      | true =>
        rw [PySem.W.dataLt_all_yes a3 e3, lex_irrefl] at h
        exact absurd h (by decide)
def rk3V (g : Gap) (as : List Arr) (o : List Int) : R3 := (mx0 (tkV g as o), (tkV g as o).sum, o)
def rs3V (g : Gap) (as : List Arr) (sh : Int) : List R3 := ((ordsV as.length as.length).filter fun o => gdV as o (tkV g as o) sh).map (rk3V g as)
def lb3V (g : Gap) (as : List Arr) (sh : Int) : Option (List Int) := match (rs3V g as sh).mergeSort (PySem.W.dataLe false eR3) with
  | [] => none
  | r :: _ => some r.2.2
theorem rs3_mem {g : Gap} {as : List Arr} {sh : Int} {x : R3} : x ∈ rs3V g as sh ↔ ∃ y, Cm g as sh [] y ∧ p3 y = x := by
  unfold rs3V
  rw [List.mem_map]
  constructor
  · rintro ⟨o, ho, e⟩
    exact ⟨rkV g as o, rks_mem.mp (List.mem_map.mpr ⟨o, ho, rfl⟩), e⟩
  · rintro ⟨y, hy, e⟩
    obtain ⟨o, ho, e2⟩ := List.mem_map.mp (rks_mem.mpr hy)
    subst e2
    exact ⟨o, ho, e⟩
theorem fi_min {g : Gap} {as : List Arr} {sh : Int} (ha : ∀ a ∈ as, ArrOk a) : IsMin none (Cm g as sh []) (fiV g as sh) := gr_min ha as.length [] none (by show 0 + as.length = _; omega) List.nodup_nil (fun i hi => absurd hi List.not_mem_nil) rfl
theorem best3_eq {g : Gap} {as : List Arr} {sh : Int} (ha : ∀ a ∈ as, ArrOk a) : lb3V g as sh = (fiV g as sh).map fun r => r.2.2.1 := by
  have hm := fi_min (g := g) (sh := sh) ha
  have hp := List.mergeSort_perm (rs3V g as sh) (PySem.W.dataLe false eR3)
  have hw : ((rs3V g as sh).mergeSort (PySem.W.dataLe false eR3)).Pairwise (fun a b => PySem.W.dataLe false eR3 a b = true) := PySem.W.sort_pairwise (PySem.W.sortLe_total _ _ _) _
  unfold lb3V
  generalize fiV g as sh = r at hm
  generalize (rs3V g as sh).mergeSort (PySem.W.dataLe false eR3) = ss at hp hw
  have hmem : ∀ x, x ∈ ss ↔ ∃ y, Cm g as sh [] y ∧ p3 y = x := fun x => hp.mem_iff.trans rs3_mem
  cases r with
  | none =>
    rcases ss with _ | ⟨h, tl⟩
    · rfl
    · obtain ⟨y, hy, _⟩ := (hmem h).mp List.mem_cons_self
      exact absurd hy ((hm.nn rfl).2 y)
  | some x =>
    have hx : Cm g as sh [] x := (hm.sm x rfl).resolve_left (by intro e; cases e)
    rcases ss with _ | ⟨h, tl⟩
    · exact absurd ((hmem (p3 x)).mpr ⟨x, hx, rfl⟩) List.not_mem_nil
    · obtain ⟨y, hy, ey⟩ := (hmem h).mp List.mem_cons_self
      have e1 : lt3 h (p3 x) = false := by
        cases hc : lt3 h (p3 x) with
        | false => rfl
        | true =>
          rw [← ey] at hc
          have := lt3_of hc
          rw [hm.new x rfl y hy] at this
          cases this
      have e2 : lt3 (p3 x) h = false := by
        rcases List.mem_cons.mp ((hmem (p3 x)).mpr ⟨x, hx, rfl⟩) with z | z
        · rw [z]; exact lt3_irr _
        · have := (List.pairwise_cons.mp hw).1 _ z
          have e : (!lt3 (p3 x) h) = true := this
          rw [Bool.not_eq_true'] at e
          exact e
      rw [lt3_tot e1 e2]
      rfl
theorem fi_in {g : Gap} {as : List Arr} {sh : Int} (ha : ∀ a ∈ as, ArrOk a) {r : Rk} (h : fiV g as sh = some r) : r.2.2.1.length = as.length ∧ ∀ i ∈ r.2.2.1, InR as.length i := by
  have hm := fi_min (g := g) (sh := sh) ha
  obtain ⟨o, hw, e⟩ := (hm.sm r h).resolve_left (by intro e; cases e)
  subst e
  exact ⟨hw.l, hw.i⟩
end Law
set_option Elab.async false
set_option linter.all false
set_option maxRecDepth 100000
set_option maxHeartbeats 1500000
set_option synthInstance.maxSize 4000
set_option synthInstance.maxHeartbeats 400000
/-! SeB: sequences of requests (k37). -/
namespace Law
open PySem L2 Evl Sk MP M10
local macro_rules | `(tactic| walk_at "sc") => `(tactic| first | omega | assumption | trivial | (with_reducible exact mulOk) | (with_reducible exact smOk) | (with_reducible exact ⟨by decide, smOk⟩) | (with_reducible exact ⟨by omega, smOk⟩) | decide | rfl | (simp only [List.length_cons, List.length_nil]; decide) | exact divOk (by omega))
abbrev rq0 : Rq := ("", (0, 0, 0, 0, 0), "", "", 0, 0, 0, 0)
abbrev rwOf (c : ChV) : List Str := c.1.1.2.2.2.1
abbrev goV (q : Rq) : Str := q.2.2.2.1
def badR (c : ChV) (q0 q : Rq) : Bool := !decide (goV q ∈ rwOf c) || !decide (goV q = goV q0)
noncomputable def asV (c : ChV) (ru : RuV) (ws : List M10.W4) (rs : List Rq) : List Arr := rs.map fun q => arV3 q ((feV c ru ws q).getD 0)
abbrev pkV (rs : List Rq) (o : List Int) : List Rq := o.map fun i => rs.getD i.toNat rq0
noncomputable def sqV (c : ChV) (ru : RuV) (ws : List M10.W4) (rs : List Rq) (sh : Int) : Str ⊕ List Rq :=
  if rs.any (badR c (rs.getD 0 rq0)) = true then .inl "runway" else if rs.any (fun q => (feV c ru ws q).isNone) = true then .inl "entry" else match fiV (gapsOf ru) (asV c ru ws rs) sh with
    | none => .inl "none"
    | some r => .inr (pkV rs r.2.2.1)
theorem fe_ge {c : ChV} {ru : RuV} {ws : List M10.W4} {q : Rq} (h : RqB c q) {r : Int} (e : feV c ru ws q = some r) : 0 ≤ r := by
  obtain ⟨o, ho, h2⟩ := List.exists_of_findSome?_eq_some e
  obtain ⟨_, h3⟩ := mn_mem ho
  unfold rdO at h2
  obtain ⟨bs, _, e2⟩ := Option.map_eq_some_iff.mp h2
  have := winE_ge (tt := tot (fxOf c) o.1.1) (t := o.2) (bs := bs)
  have := h.t
  omega
structure SqOk (c : ChV) (ru : RuV) (ws : List M10.W4) (rs : List Rq) : Prop where
  i : SqI c ru ws
  g : GapOk (gapsOf ru)
  l : rs.length ≤ 6
  r : ∀ q ∈ rs, RqB c q
theorem as_ok {c : ChV} {ru : RuV} {ws : List M10.W4} {rs : List Rq} (h : SqOk c ru ws rs) : ∀ a ∈ asV c ru ws rs, ArrOk a := fun a ha => by
  obtain ⟨q, hq, e⟩ := List.mem_map.mp ha
  subst e
  have hb := h.r q hq
  refine ⟨⟨hb.k.w.1, by have := hb.k.w.2; show q.2.1.1 < 4; omega⟩, ?_⟩
  show 0 ≤ (feV c ru ws q).getD 0
  cases e : feV c ru ws q with
  | none => exact Int.le_refl _
  | some r => exact fe_ge hb e
abbrev SqF (c : Str) : List (Str × V) := [("code", .str c)]
theorem any_no {α : Type} {f : α → Bool} {xs : List α} (h : ∀ (j : Nat) (x : α), j < xs.length → xs[j]? = some x → f x = false) : xs.any f = false := by
  rw [List.any_eq_false]
  intro x hx
  obtain ⟨j, hj⟩ := List.getElem?_of_mem hx
  rw [h j x (List.getElem?_eq_some_iff.mp hj).1 hj]
  exact Bool.false_ne_true
theorem any_yes {α : Type} {f : α → Bool} {xs : List α} {i : Nat} {x : α} (hx : xs[i]? = some x) (h : f x = true) : xs.any f = true := List.any_eq_true.mpr ⟨x, List.mem_of_getElem? hx, h⟩
theorem getD_at0 {rs : List Rq} {i : Nat} (h : i < rs.length) : rs[i]? = some (rs.getD i rq0) := by
  rw [List.getD_eq_getElem?_getD, List.getElem?_eq_getElem h]
  rfl
theorem se_msg {c : Str} (hc : (reprText c).length ≤ 100000) : ∀ v ∈ [V.str c], MsgOk v := fun v hv => by
  rw [List.mem_singleton.mp hv]
  exact .inl ⟨c, rfl, hc⟩
section
variable {P : Program} {w : World} {K : PySem.W.Frag} {mg : Str → Option Value} {base : Heap}
abbrev SqA := ChV × RuV × List M10.W4 × List Rq × Int
abbrev sp_sequenced (E : Addr) (T : List Addr) (K : Fg) : Sp := sp0X K T (fCons rChart (fCons rRules (fCons (rLst rWnd) (fCons (rLst rRq) (fOne rInt))))) (fun x : SqA => SqOk x.1 x.2.1 x.2.2.1 x.2.2.2.1) (rLst rRq) (fun x y => sqV x.1 x.2.1 x.2.2.1 x.2.2.2.1 x.2.2.2.2 = .inr y) fun x C fl => C = E ∧ ∃ c, fl = SqF c ∧ sqV x.1 x.2.1 x.2.2.1 x.2.2.2.1 x.2.2.2.2 = .inl c
abbrev N_sequenced : List Str := ["chart", "rules", "winds", "requests", "shift", "request", "arrivals", "arrival", "order", "_", "index"]
theorem sc_sequenced : FnScope N_sequenced ["chart", "rules", "winds", "requests", "shift"] (defScope s_sequenced) := ⟨rfl, rfl, rfl, by decide +kernel, rfl, by decide +kernel, by decide +kernel⟩
theorem ok_sequenced (N : Nm K mg) (T : Bt mg) (Y : Tb0 N base) (hP : P.main = pM) : FnOk P w K mg base (L2.CX P w) 14 N.sequenced.f N.sequenced.fd ["chart", "rules", "winds", "requests", "shift"] (sp_sequenced N.cSequenceError (tsOf N) K) := by
  refine fn_x N.sequenced.F sc_sequenced (tsOf N) fun cdv A outer s G H E x Q fam hp tk hpo hk hkx => ?_
  obtain ⟨c, ru, ws, rs, sh⟩ := x
  have hp : SqOk c ru ws rs := hp
  have hl := hp.l
  have z1 : 100000 ≤ sizeLine := by decide
  have hk' : ∀ {Γ : Gm} {O : List Own} {y : List Rq}, sqV c ru ws rs sh = .inr y → RT K ⟨tsOf N, _, G, H, []⟩ Γ O (rLst rRq) y _ := fun {Γ O y} e => rt_drop (hk ⟨rfl, e⟩)
  have hx' : ∀ {Γ : Gm} {d : Str}, sqV c ru ws rs sh = .inl d → XT K ⟨tsOf N, _, G, H, []⟩ Γ [] N.cSequenceError (SqF d) _ := fun {Γ d} e => hkx ⟨rfl, rfl, d, rfl, e⟩
  clear hk hkx
  show DS _ K ⟨tsOf N, _, G, H, []⟩ [some ⟨rChart, c⟩, some ⟨rRules, ru⟩, some ⟨rLst rWnd, ws⟩, some ⟨rLst rRq, rs⟩, some ⟨rInt, sh⟩, none, none, none, none, none, none] [] (defBody s_sequenced) _
  refine s_for (js := [5]) (w_lst (d_var (ra := rLst rRq) (x := rs) 3 ?_))
  refine ⟨Unit, fun i _ => ∀ (j : Nat) (q : Rq), j < i → rs[j]? = some q → badR c (rs.getD 0 rq0) q = false, fun _ => [some ⟨rChart, c⟩, some ⟨rRules, ru⟩, some ⟨rLst rWnd, ws⟩, some ⟨rLst rRq, rs⟩, some ⟨rInt, sh⟩, none, none, none, none, none, none], fun _ => [], ⟨(), fun j q h => absurd h (Nat.not_lt_zero _), ⟨rfl, rfl, rfl, rfl, rfl, trivial⟩, rfl⟩, fun gg i q d hx hd => (g_name 5 ?_), fun d hd => ?_⟩
  · have hil : i < rs.length := (List.getElem?_eq_some_iff.mp hx).1
    have g0 : atI rs 0 = some (rs.getD 0 rq0) := atI_nat' (k := 0) (getD_at0 (by omega))
    refine s_ifP (x := badR c (rs.getD 0 rq0) q) (dt_bool (dp_orP (x := !decide (goV q ∈ rwOf c)) (dt_cmp (d_ix (d_var (ra := rRq) (x := q) 5 (d_int (i_tup 3 (d_recP 0 3 rfl chN_nd (o_notInL ⟨rfl, rfl⟩))))))) (fun _ => dp_or1 (dt_cmp (d_ix (d_var (ra := rRq) (x := q) 5 (d_int (i_tup 3 (d_ix (d_ix (d_var (ra := rLst rRq) (x := rs) 3 (d_int (i_lst g0 (d_int (i_tup 3 (o_neS ⟨rfl, rfl⟩)))))))))))))))) (fun hb => ?_) (fun hb => s_out ?_)
    · refine s_raise tk N.xSequenceError (ini_SequenceError N hP) (da_one (d_str ⟨⟨rfl, by decide⟩, se_msg (c := "runway") (by decide +kernel), xt_in (hx' ?_)⟩))
      unfold sqV
      rw [if_pos (any_yes hx hb)]
    · refine s_next () (fun j z hj hz => ?_) ⟨rfl, rfl, rfl, rfl, rfl, trivial⟩ rfl
      by_cases e : j = i
      · subst e
        rw [hx] at hz
        rw [← Option.some.inj hz]
        exact hb
      · exact hd j z (by omega) hz
  have hrun : ¬ rs.any (badR c (rs.getD 0 rq0)) = true := by rw [any_no hd]; exact Bool.false_ne_true
  clear hd
  refine s_set 6 (d_lstO (ra := rArr) (da_all0 ⟨(by walk_at "sc"), fun p hpM => ?_⟩))
  refine s_for (js := [5]) (w_lst (d_var (ra := rLst rRq) (x := rs) 3 ?_))
  refine ⟨List Arr, fun i D => D = asV c ru ws (rs.take i) ∧ ∀ (j : Nat) (q : Rq), j < i → rs[j]? = some q → (feV c ru ws q).isNone = false, fun _ => [some ⟨rChart, c⟩, some ⟨rRules, ru⟩, some ⟨rLst rWnd, ws⟩, some ⟨rLst rRq, rs⟩, some ⟨rInt, sh⟩, none, some ⟨rAdr, p⟩, none, none, none, none], fun D => [⟨p, oLst rArr, D⟩], ⟨[], ⟨rfl, fun j q h => absurd h (Nat.not_lt_zero _)⟩, ⟨rfl, rfl, rfl, rfl, rfl, rfl, trivial⟩, rfl⟩, fun gg i q D hx hD => (g_name 5 ?_), fun D hD => ?_⟩
  · obtain ⟨hD, hd⟩ := hD
    have hil : i < rs.length := (List.getElem?_eq_some_iff.mp hx).1
    have hDl : D.length ≤ 6 := by
      rw [hD]
      unfold asV
      rw [List.length_map, List.length_take]
      omega
    have hb := hp.r q (List.mem_of_getElem? hx)
    refine s_set 7 (d_call N.first_entry (ok_first_entry N T Y hP) (da_cons (d_var (ra := rChart) (x := c) 0 (da_cons (d_var (ra := rRules) (x := ru) 1 (da_cons (d_var (ra := rLst rWnd) (x := ws) 2 (da_one (d_var (ra := rRq) (x := q) 5 (sw_f ⟨hp.i, hb⟩ ?_))))))))))
    dsimp only
    cases hfe : feV c ru ws q with
    | none =>
      refine s_ifP (x := true) (dt_cmp (d_var (ra := rOpt rArr) (x := none) 7 (d_non (o_isN ⟨rfl, rfl⟩)))) (fun _ => ?_) (fun hb => Bool.noConfusion hb)
      refine s_raise tk N.xSequenceError (ini_SequenceError N hP) (da_one (d_str ⟨⟨rfl, by decide⟩, se_msg (c := "entry") (by decide +kernel), xt_in (xt_drop (hx' ?_))⟩))
      unfold sqV
      rw [if_neg hrun, if_pos (any_yes hx (by rw [hfe]; rfl))]
    | some r =>
      refine s_ifP (x := false) (dt_cmp (d_var (ra := rOpt rArr) (x := some (arV3 q r)) 7 (d_non (o_isN ⟨rfl, rfl⟩)))) (fun hb => Bool.noConfusion hb) (fun _ => s_out ?_)
      refine s_some (ra := rArr) 7 ?_
      refine s_expr (d_app (ra := rArr) (d_var (ra := rAdr) (x := p) 6 ⟨_, _, inferInstance, d_var (ra := rArr) (x := arV3 q r) 7 ⟨_, _, inferInstance, ?_, ?_⟩⟩))
      · show D.length < sizeLine
        omega
      · refine s_next (D ++ [arV3 q r]) ⟨?_, fun j z hj hz => ?_⟩ ⟨rfl, rfl, rfl, rfl, rfl, rfl, trivial⟩ rfl
        · show D ++ [arV3 q r] = (rs.take (i + 1)).map _
          rw [take_snoc hx, List.map_append, hD]
          show _ = _ ++ [arV3 q ((feV c ru ws q).getD 0)]
          rw [hfe]
          rfl
        · by_cases e : j = i
          · subst e
            rw [hx] at hz
            rw [← Option.some.inj hz, hfe]
            rfl
          · exact hd j z (by omega) hz
  obtain ⟨hD, hd⟩ := hD
  rw [List.take_length] at hD
  have hent : ¬ rs.any (fun q => (feV c ru ws q).isNone) = true := by rw [any_no hd]; exact Bool.false_ne_true
  clear hd
  subst hD
  refine s_frz 6 hpM ?_
  have hao := as_ok hp
  have hasl : (asV c ru ws rs).length = rs.length := List.length_map _
  have hbo : BeOk (gapsOf ru, asV c ru ws rs, sh) := ⟨hp.g, hao, by dsimp only; omega⟩
  have hsq : sqV c ru ws rs sh = match fiV (gapsOf ru) (asV c ru ws rs) sh with | none => .inl "none" | some r => .inr (pkV rs r.2.2.1) := by
    unfold sqV
    rw [if_neg hrun, if_neg hent]
  refine s_asg (js := [8, 9]) (ra := rAns) (d_callX (fun _ => tk) N.best_order (ok_best_order N T hP) (da_cons (d_recP 1 11 rfl ruN_nd (da_cons (d_var (ra := rLst rArr) (x := asV c ru ws rs) 6 (da_one (d_var (ra := rInt) (x := sh) 4 (sw_0X hbo (fun y hy => ?_) (fun C fl hxe => ?_)))))))))
  · obtain ⟨r, hr, ey⟩ := hy
    have hr : fiV (gapsOf ru) (asV c ru ws rs) sh = some r := hr
    subst ey
    obtain ⟨hol, hoi⟩ := fi_in hao hr
    rw [hr] at hsq
    have hsq : sqV c ru ws rs sh = .inr (pkV rs r.2.2.1) := hsq
    rw [hasl] at hol hoi
    obtain ⟨r1, r2, r3, r4⟩ := r
    dsimp only at hol hoi hsq
    refine g_tup (gs_cons (g_name 8 (gs_one (g_name 9 ?_))))
    refine s_ret (d_lcP (js := [10]) (ra := rInt) (rb := rRq) (f := fun i : Int => rs.getD i.toNat rq0) [("index", 10)] [10] (fun _ => blkOk_by (N := N_sequenced) (sc := defScope s_sequenced) (by decide +kernel)) (w_tpv (d_var (ra := rOrd) (x := r3) 8 ⟨rfl, by omega, fun gg D ys i hi => (g_name 10 ?_), hk' hsq⟩)))
    have hir := hoi i hi
    have gi : atI rs i = some (rs.getD i.toNat rq0) := atI_int hir.1 (getD_at0 (by have := hir.1; have := hir.2; omega))
    exact d_ix (d_var (ra := rLst rRq) (x := rs) 3 (d_var (ra := rInt) (x := i) 10 (i_lst gi ⟨rfl, rfl⟩)))
  · obtain ⟨eC, efl, hno⟩ := hxe
    have hno : fiV (gapsOf ru) (asV c ru ws rs) sh = none := hno
    subst eC efl
    rw [hno] at hsq
    exact hx' hsq
end
end Law
set_option Elab.async false
set_option linter.all false
set_option maxRecDepth 100000
set_option maxHeartbeats 1500000
set_option synthInstance.maxSize 4000
set_option synthInstance.maxHeartbeats 400000
/-! SeC: the law's own ticks, best order (k37). -/
namespace Law
open PySem L2 Evl Sk MP M10
local macro_rules | `(tactic| walk_at "sc") => `(tactic| first | omega | assumption | trivial | (with_reducible exact mulOk) | (with_reducible exact smOk) | (with_reducible exact ⟨by decide, smOk⟩) | (with_reducible exact ⟨by omega, smOk⟩) | decide | rfl | (simp only [List.length_cons, List.length_nil]; decide) | exact divOk (by omega))
abbrev ltF (as : List Arr) (o ts : List Int) (k : Int) : Bool := decide (ts.getD k.toNat 0 > (arV as (o.getD k.toNat 0)).2.2)
abbrev faF (as : List Arr) (o : List Int) (sh : Int) (k : Int) : Bool := decide (absV (posI as (o.getD k.toNat 0) - k) > sh)
theorem gd_two (as : List Arr) (o ts : List Int) (sh : Int) : (decide ((((rgI 0 1 o.length).filter (ltF as o ts)).length : Int) = 0) && decide ((((rgI 0 1 o.length).filter (faF as o sh)).length : Int) = 0)) = gdV as o ts sh := by
  have hn : ∀ (f : Int → Bool), (((rgI 0 1 o.length).filter f).length : Int) = 0 ↔ ∀ p : Nat, p < o.length → f (p : Int) = false := fun f => by
    rw [show (((rgI 0 1 o.length).filter f).length : Int) = 0 ↔ ((rgI 0 1 o.length).filter f).length = 0 by omega, List.length_eq_zero_iff, List.filter_eq_nil_iff]
    constructor
    · intro h p hp
      have hl : p < (rgI 0 1 o.length).length := by rw [rgI_len]; exact hp
      have g := List.getElem?_eq_getElem hl
      obtain ⟨_, ex⟩ := rgI_item g
      have := h _ (List.mem_of_getElem? g)
      rw [ex, Bool.not_eq_true] at this
      rw [← this]
      congr 1
      omega
    · intro h x hx
      obtain ⟨p, hp⟩ := List.getElem?_of_mem hx
      obtain ⟨hlt, ex⟩ := rgI_item hp
      have ex : x = (p : Int) := by omega
      rw [ex, h p hlt]
      exact Bool.false_ne_true
  rw [Bool.eq_iff_iff, Bool.and_eq_true, decide_eq_true_eq, decide_eq_true_eq, hn, hn]
  unfold gdV
  rw [List.all_eq_true]
  constructor
  · rintro ⟨h1, h2⟩ p hp
    have hp := List.mem_range.mp hp
    have a1 := of_decide_eq_false (h1 p hp)
    have a2 := of_decide_eq_false (h2 p hp)
    rw [Int.toNat_natCast] at a1 a2
    rw [Bool.and_eq_true, decide_eq_true_eq, decide_eq_true_eq]
    exact ⟨Int.not_lt.mp a1, Int.not_lt.mp a2⟩
  · intro h
    refine ⟨fun p hp => ?_, fun p hp => ?_⟩
    · have a := h p (List.mem_range.mpr hp)
      rw [Bool.and_eq_true, decide_eq_true_eq, decide_eq_true_eq] at a
      refine decide_eq_false ?_
      rw [Int.toNat_natCast]
      exact Int.not_lt.mpr a.1
    · have a := h p (List.mem_range.mpr hp)
      rw [Bool.and_eq_true, decide_eq_true_eq, decide_eq_true_eq] at a
      refine decide_eq_false ?_
      rw [Int.toNat_natCast]
      exact Int.not_lt.mpr a.2
theorem prt_rg (o : List Int) (n : Nat) : ((rgI 0 1 n).filter fun i : Int => !decide (i ∈ o)).map (fun i : Int => o ++ [i]) = prtV o n := by
  have er : rgI 0 1 n = (List.range n).map (fun k : Nat => (k : Int)) := by
    refine List.ext_getElem? fun i => ?_
    by_cases h : i < n
    · have hl : i < (rgI 0 1 n).length := by rw [rgI_len]; exact h
      have g := List.getElem?_eq_getElem hl
      obtain ⟨_, ex⟩ := rgI_item g
      rw [g, List.getElem?_map, List.getElem?_range h]
      show some _ = some ((i : Nat) : Int)
      rw [ex]
      congr 1
      omega
    · rw [List.getElem?_eq_none (by rw [rgI_len]; omega), List.getElem?_eq_none (by rw [List.length_map, List.length_range]; omega)]
  rw [er, List.filter_map, List.map_map]
  rfl
section
variable {P : Program} {w : World} {K : PySem.W.Frag} {mg : Str → Option Value} {base : Heap}
abbrev sp_orders (K : Fg) : Sp := spF K [] (fOne rInt) (fun n => 0 ≤ n ∧ n ≤ 6) (rLst rOrd) fun n => ordsV n.toNat n.toNat
abbrev N_orders : List Str := ["_law_many", "_law_orders_here", "_law_k", "_law_longer", "_law_order", "_law_index"]
theorem sc_orders : FnScope N_orders ["_law_many"] (defScope s_orders) := ⟨rfl, rfl, rfl, by decide +kernel, rfl, by decide +kernel, by decide +kernel⟩
theorem ok_orders (N : Nm K mg) (T : Bt mg) : FnOk P w K mg base CX0 1 N.orders.f N.orders.fd ["_law_many"] (sp_orders K) := by
  refine fn_m N.orders.F sc_orders [] fun cdv A outer s G H E n0 Q fam hp hk => ?_
  obtain ⟨n, rfl⟩ : ∃ n : Nat, n0 = (n : Int) := ⟨n0.toNat, by have := hp.1; omega⟩
  have hn : n ≤ 6 := by have := hp.2; omega
  have hk' : ∀ {Γ : Gm}, RT K ⟨[], _, G, H, []⟩ Γ [] (rLst rOrd) (ordsV n n) _ := fun {Γ} => hk ⟨rfl, rfl⟩
  clear hk hp
  have z1 : 100000 ≤ sizeLine := by decide
  show DS _ K ⟨[], _, G, H, []⟩ [some ⟨rInt, (n : Int)⟩, none, none, none, none, none] [] (defBody s_orders) _
  refine s_set 1 (d_lst (ra := rOrd) (da_all (d_tpv (ra := rInt) (da_all0 ⟨(by walk_at "sc"), (da_all0 ⟨(by walk_at "sc"), ?_⟩)⟩))))
  refine s_for (js := [2]) (w_rng1 T.range (d_var 0 ⟨by omega, ?_⟩))
  refine ⟨Nat, fun k d => d = k, fun d => [some ⟨rInt, (n : Int)⟩, some ⟨rLst rOrd, ordsV n d⟩, none, none, none, none], fun _ => [], ⟨0, rfl, ⟨rfl, rfl, trivial⟩, rfl⟩, fun gg k x d hx hd => (g_name 2 ?_), fun d hd => ?_⟩
  · have hd : d = k := hd
    subst hd
    have hk6 : d < n := by have := (rgI_item hx).1; omega
    have hle : (ordsV n d).length ≤ 7776 := by
      have h1 := ords_len hn d
      have h2 : 6 ^ d ≤ 6 ^ 5 := Nat.pow_le_pow_right (by decide) (by omega)
      omega
    refine s_set 3 (d_lstO (ra := rOrd) (da_all0 ⟨(by walk_at "sc"), fun q hq => ?_⟩))
    refine s_for (js := [4]) (w_lst (d_var (ra := rLst rOrd) (x := ordsV n d) 1 ?_))
    refine ⟨List (List Int), fun i D => D = ((ordsV n d).take i).flatMap (oneV n), fun _ => [some ⟨rInt, (n : Int)⟩, some ⟨rLst rOrd, ordsV n d⟩, none, some ⟨rAdr, q⟩, none, none], fun D => [⟨q, oLst rOrd, D⟩], ⟨[], rfl, ⟨rfl, rfl, rfl, trivial⟩, rfl⟩, fun g2 i o D hx2 hD => (g_name 4 ?_), fun D hD => ?_⟩
    · have hD : D = ((ordsV n d).take i).flatMap (oneV n) := hD
      have hi : i < (ordsV n d).length := (List.getElem?_eq_some_iff.mp hx2).1
      have ho := (ords_mem.mp (List.mem_of_getElem? hx2)).1
      have hDl : D.length ≤ 46656 := by
        have h1 := fl_len n ((ordsV n d).take i)
        rw [← hD, List.length_take] at h1
        have h2 : min i (ordsV n d).length * n ≤ 7776 * 6 := Nat.mul_le_mul (by omega) hn
        omega
      have hpl := prt_len o n
      refine s_expr (d_ext (rc := rOrd) (d_var (ra := rAdr) (x := q) 3 ⟨_, _, inferInstance, d_lcF (js := [5]) (ra := rInt) (rb := rOrd) (f := fun i : Int => o ++ [i]) (g := fun i : Int => !decide (i ∈ o)) [("_law_index", 5)] [5] (fun _ => blkOk_by (N := N_orders) (sc := defScope s_orders) (by decide +kernel)) (w_rng1 T.range (d_var (ra := rInt) (x := (n : Int)) 0 ⟨by omega, ⟨rfl, (by rw [rgI_len]; omega), fun g3 D2 ys y hy => (g_name 5 (dts_one (dt_then (x := !decide (y ∈ o)) (dt_cmp (d_var (ra := rInt) (x := y) 5 (d_var (ra := rOrd) (x := o) 4 (o_notInT ⟨rfl, rfl⟩)))) ⟨rfl, rfl, fun hb => d_bin (d_var (ra := rOrd) (x := o) 4 (d_tpv (ra := rInt) (da_all (d_var (ra := rInt) (x := y) 5 (da_all0 ⟨(by walk_at "sc"), o_catA ?_ ⟨rfl, rfl⟩⟩)))))⟩))), _, _, _, inferInstance, inferInstance, ?_, ?_⟩⟩))⟩))
      · show o.length + 1 ≤ sizeLine
        omega
      · rw [Int.toNat_natCast, prt_rg]
        omega
      rw [Int.toNat_natCast, prt_rg]
      refine s_next (D ++ prtV o n) ?_ ⟨rfl, rfl, rfl, trivial⟩ rfl
      show D ++ prtV o n = ((ordsV n d).take (i + 1)).flatMap (oneV n)
      rw [flatMap_take hx2, ← hD]
    · have hD : D = ((ordsV n d).take (ordsV n d).length).flatMap (oneV n) := hD
      rw [List.take_length] at hD
      refine s_frz 3 hq ?_
      refine s_set 1 (d_var (ra := rLst rOrd) (x := D) 3 ?_)
      subst hD
      exact s_next (d + 1) rfl ⟨rfl, rfl, trivial⟩ rfl
  · have hd : d = (rgI 0 1 ((n : Int)).toNat).length := hd
    rw [rgI_len, Int.toNat_natCast] at hd
    subst hd
    exact s_ret (d_var (ra := rLst rOrd) (x := ordsV d d) 1 hk')
end
section
variable {P : Program} {w : World} {K : PySem.W.Frag} {mg : Str → Option Value} {base : Heap}
abbrev sp_ticks (K : Fg) : Sp := spF K [] (fCons rGap (fCons (rLst rArr) (fOne rOrd))) (fun x => (GapOk x.1 ∧ ∀ a ∈ x.2.1, ArrOk a) ∧ x.2.2.length ≤ 1000 ∧ ∀ i ∈ x.2.2, InR x.2.1.length i) (rLst rInt) fun x => tkV x.1 x.2.1 x.2.2
abbrev N_ticks : List Str := ["_law_gaps", "_law_arrivals", "_law_order", "_law_ticks_here", "_law_index", "_law_tick", "_law_j"]
theorem sc_ticks : FnScope N_ticks ["_law_gaps", "_law_arrivals", "_law_order"] (defScope s_ticks) := ⟨rfl, rfl, rfl, by decide +kernel, rfl, by decide +kernel, by decide +kernel⟩
theorem ok_ticks (N : Nm K mg) (T : Bt mg) : FnOk P w K mg base CX0 1 N.ticks.f N.ticks.fd ["_law_gaps", "_law_arrivals", "_law_order"] (sp_ticks K) := by
  refine fn_m N.ticks.F sc_ticks [] fun cdv A outer s G H E x Q fam hp hk => ?_
  obtain ⟨g, as, o⟩ := x
  obtain ⟨⟨hg, ha⟩, hl, ho⟩ := hp
  dsimp only at hg ha hl ho
  have z1 : 100000 ≤ sizeLine := by decide
  show DS _ K ⟨[], _, G, H, []⟩ [some ⟨rGap, g⟩, some ⟨rLst rArr, as⟩, some ⟨rOrd, o⟩, none, none, none, none] [] (defBody s_ticks) _
  refine s_set 3 (d_lstO (ra := rInt) (da_all0 ⟨(by walk_at "sc"), fun q hq => ?_⟩))
  refine s_for (js := [4]) (w_tpv (d_var 2 ?_))
  refine ⟨List Int, fun i d => d = tkV g as (o.take i), fun _ => [some ⟨rGap, g⟩, some ⟨rLst rArr, as⟩, some ⟨rOrd, o⟩, some ⟨rAdr, q⟩, none, none, none], fun d => [⟨q, oLst rInt, d⟩], ⟨[], rfl, ⟨rfl, rfl, rfl, rfl, trivial⟩, rfl⟩, fun gg i x d hx hd => (g_name 4 ?_), fun d hd => ?_⟩
  · have hd : d = tkV g as (o.take i) := hd
    have hi : i < o.length := (List.getElem?_eq_some_iff.mp hx).1
    have hxr : InR as.length x := ho x (List.mem_of_getElem? hx)
    have htk : o.take (i + 1) = o.take i ++ [x] := by rw [List.take_succ, hx]; rfl
    have hdl : d.length = i := by rw [hd, tk_len, List.length_take]; omega
    have hax := ha _ (arr_mem hxr)
    refine s_set 5 (d_ix (d_ix (d_var (ra := rLst rArr) (x := as) 1 (d_var (ra := rInt) (x := x) 4 (i_lst (arr_at hxr) (d_int (i_tup 1 ?_)))))))
    refine s_for (js := [6]) (w_rng1 T.range (d_callB T.len bt_len (da_one (d_var (ra := rAdr) (x := q) 3 (c_lenG ⟨by omega, ?_⟩)))))
    refine ⟨Int, fun j t => t = (((befV g as (o.take i)).take j).map fun p : Bf => p.2 + gpV g p.1 (arV as x).1).foldl max (arV as x).2.1, fun t => [some ⟨rGap, g⟩, some ⟨rLst rArr, as⟩, some ⟨rOrd, o⟩, some ⟨rAdr, q⟩, some ⟨rInt, x⟩, some ⟨rInt, t⟩, none], fun _ => [⟨q, oLst rInt, d⟩], ⟨(arV as x).2.1, rfl, ⟨rfl, rfl, rfl, rfl, rfl, rfl, trivial⟩, rfl⟩, fun g2 j y t hy ht => (g_name 6 ?_), fun t ht => ?_⟩
    · have ht : t = (((befV g as (o.take i)).take j).map fun p : Bf => p.2 + gpV g p.1 (arV as x).1).foldl max (arV as x).2.1 := ht
      obtain ⟨hj, ey⟩ := rgI_item hy
      have ey : y = (j : Int) := by omega
      subst ey
      have hj : j < i := by omega
      have hj2 : j < o.length := by omega
      obtain ⟨i2, hi2⟩ : ∃ z, o[j]? = some z := ⟨_, List.getElem?_eq_getElem hj2⟩
      obtain ⟨t2, ht2⟩ : ∃ z, d[j]? = some z := ⟨_, List.getElem?_eq_getElem (by omega)⟩
      have hr2 : InR as.length i2 := ho i2 (List.mem_of_getElem? hi2)
      have hax2 := ha _ (arr_mem hr2)
      have hb : (befV g as (o.take i))[j]? = some ((arV as i2).1, t2) := bef_at (by rw [List.getElem?_take_of_lt hj]; exact hi2) (by rw [← hd]; exact ht2)
      refine s_set 5 (d_callB T.max bt_max (da_cons (d_var (ra := rInt) (x := t) 5 (da_one (d_bin (d_ix (d_var (ra := rAdr) (x := q) 3 (d_var (ra := rInt) (x := (j : Int)) 6 (i_ls (atI_nat' ht2) (d_ix (d_ix (d_var (ra := rGap) (x := g) 0 (d_ix (d_ix (d_var (ra := rLst rArr) (x := as) 1 (d_ix (d_var (ra := rOrd) (x := o) 2 (d_var (ra := rInt) (x := (j : Int)) 6 (i_tpv (atI_nat' hi2) (i_lst (arr_at hr2) (d_int (i_tup 0 (i_tpv (gap_row hg hax2.w) (d_ix (d_ix (d_var (ra := rLst rArr) (x := as) 1 (d_var (ra := rInt) (x := x) 4 (i_lst (arr_at hxr) (d_int (i_tup 0 (i_tpv (gap_at hg hax2.w hax.w) (o_add (c_max2 ?_)))))))))))))))))))))))))))))))))
      refine s_next _ ?_ ⟨rfl, rfl, rfl, rfl, rfl, rfl, trivial⟩ rfl
      show _ = (((befV g as (o.take i)).take (j + 1)).map fun p : Bf => p.2 + gpV g p.1 (arV as x).1).foldl max (arV as x).2.1
      rw [List.take_succ, hb, List.map_append, List.foldl_append, ← ht]
      show (if t2 + gpV g (arV as i2).1 (arV as x).1 > t then t2 + gpV g (arV as i2).1 (arV as x).1 else t) = max t (t2 + gpV g (arV as i2).1 (arV as x).1)
      split <;> omega
    · have ht : t = (((befV g as (o.take i)).take (rgI 0 1 ((d.length : Int)).toNat).length).map fun p : Bf => p.2 + gpV g p.1 (arV as x).1).foldl max (arV as x).2.1 := ht
      rw [rgI_len, Int.toNat_natCast, hdl, List.take_of_length_le (by rw [bef_len, List.length_take]; omega)] at ht
      refine s_expr (d_app (ra := rInt) (d_var (ra := rAdr) (x := q) 3 ⟨_, _, inferInstance, d_var (ra := rInt) (x := t) 5 ⟨_, _, inferInstance, by omega, ?_⟩⟩))
      refine s_next _ ?_ ⟨rfl, rfl, rfl, rfl, trivial⟩ rfl
      show _ = tkV g as (o.take (i + 1))
      rw [htk, tk_snoc, ← hd, ht]
      rfl
  · have hd : d = tkV g as (o.take o.length) := hd
    rw [List.take_length] at hd
    subst hd
    exact s_ret (d_var (ra := rAdr) (x := q) 3 (rt_frz hq (hk ⟨rfl, rfl⟩)))
abbrev sp_best (K : Fg) : Sp := spF K [] (fCons rGap (fCons (rLst rArr) (fOne rInt))) (fun x => BeOk x ∧ x.2.1.length ≤ 6) (rOpt rOrd) fun x => lb3V x.1 x.2.1 x.2.2
abbrev N_best : List Str := ["_law_gaps", "_law_arrivals", "_law_shift", "_law_natural", "_law_ranks", "_law_order", "_law_ticks_here", "_law_late", "_law_far", "_law_k"]
theorem sc_best : FnScope N_best ["_law_gaps", "_law_arrivals", "_law_shift"] (defScope s_best) := ⟨rfl, rfl, rfl, by decide +kernel, rfl, by decide +kernel, by decide +kernel⟩
theorem ok_best (N : Nm K mg) (T : Bt mg) : FnOk P w K mg base CX0 3 N.best.f N.best.fd ["_law_gaps", "_law_arrivals", "_law_shift"] (sp_best K) := by
  refine fn_m N.best.F sc_best [] fun cdv A outer s G H E x Q fam hp hk => ?_
  obtain ⟨g, as, sh⟩ := x
  obtain ⟨hp, hl6⟩ := hp
  have hg : GapOk g := hp.g
  have ha : ∀ a ∈ as, ArrOk a := hp.a
  have hl6 : as.length ≤ 6 := hl6
  have z1 : 100000 ≤ sizeLine := by decide
  have hk' : ∀ {Γ : Gm} {O : List Own} {y : Option (List Int)}, lb3V g as sh = y → RT K ⟨[], _, G, H, []⟩ Γ O (rOpt rOrd) y _ := fun {Γ O y} e => rt_drop (hk ⟨rfl, e.symm⟩)
  clear hk hp
  show DS _ K ⟨[], _, G, H, []⟩ [some ⟨rGap, g⟩, some ⟨rLst rArr, as⟩, some ⟨rInt, sh⟩, none, none, none, none, none, none, none] [] (defBody s_best) _
  have hol : (ordsV as.length as.length).length ≤ 46656 := by
    have h1 := ords_len hl6 as.length
    have h2 : 6 ^ as.length ≤ 6 ^ 6 := Nat.pow_le_pow_right (by decide) hl6
    omega
  have hom : ∀ o ∈ ordsV as.length as.length, o.length = as.length ∧ o.Nodup ∧ ∀ i ∈ o, InR as.length i := fun o ho => ords_mem.mp ho
  have hlb : lb3V g as sh = match (((ordsV as.length as.length).filter fun o => gdV as o (tkV g as o) sh).map (rk3V g as)).mergeSort (PySem.W.dataLe false eR3) with
      | [] => none
      | r :: _ => some r.2.2 := rfl
  refine s_set 3 (d_callB T.sorted bt_sorted (da_one (d_lcP (js := [9]) (ra := rInt) (rb := rBf) (f := fun k : Int => ((arV as k).2.1, k)) [("_law_k", 9)] [9] (fun _ => blkOk_by (N := N_best) (sc := defScope s_best) (by decide +kernel)) (w_rng1 T.range (d_callB T.len bt_len (da_one (d_var (ra := rLst rArr) (x := as) 1 (c_lenL ⟨by omega, ⟨rfl, (by rw [rgI_len]; omega), fun gg D ys x hx => (g_name 9 ?_), c_sortX ?_⟩⟩))))))))
  · obtain ⟨i, hi⟩ := List.getElem?_of_mem hx
    obtain ⟨hlt2, ex⟩ := rgI_item hi
    have hr : InR as.length x := ⟨by omega, by omega⟩
    refine d_tup (da_cons (d_ix (d_ix (d_var (ra := rLst rArr) (x := as) 1 (d_var (ra := rInt) (x := x) 9 (i_lst (arr_at hr) (d_int (i_tup 1 (da_one (d_var (ra := rInt) (x := x) 9 ⟨rfl, rfl⟩))))))))))
  rw [Int.toNat_natCast, prs_rg]
  show DS _ K ⟨[], _, G, H, []⟩ [some ⟨rGap, g⟩, some ⟨rLst rArr, as⟩, some ⟨rInt, sh⟩, some ⟨rLst rBf, rnkV as⟩, none, none, none, none, none, none] [] _ _
  have hrm : ∀ i, InR as.length i → ((arV as i).2.1, i) ∈ rnkV as := fun i hr => rnk_mem.mpr ⟨hr, rfl⟩
  have hrp : ∀ i, posI as i = ((ixB (rnkV as) ((arV as i).2.1, i) : Nat) : Int) := fun i => rfl
  generalize rnkV as = rk at hrm hrp
  refine s_set 4 (d_lstO (ra := rR3) (da_all0 ⟨(by walk_at "sc"), fun q hq => ?_⟩))
  refine s_for (js := [5]) (w_lst (d_call N.orders (ok_orders N T) (da_one (d_callB T.len bt_len (da_one (d_var (ra := rLst rArr) (x := as) 1 (c_lenL (sw_f ⟨by omega, by omega⟩ ?_))))))))
  rw [Int.toNat_natCast]
  generalize ordsV as.length as.length = os at hol hom hlb ⊢
  refine ⟨List R3, fun i d => d = ((os.take i).filter fun o => gdV as o (tkV g as o) sh).map (rk3V g as), fun _ => [some ⟨rGap, g⟩, some ⟨rLst rArr, as⟩, some ⟨rInt, sh⟩, some ⟨rLst rBf, rk⟩, some ⟨rAdr, q⟩, none, none, none, none, none], fun d => [⟨q, oLst rR3, d⟩], ⟨[], rfl, ⟨rfl, rfl, rfl, rfl, rfl, trivial⟩, rfl⟩, fun gg i o d hx hd => (g_name 5 ?_), fun d hd => ?_⟩
  · have hd : d = ((os.take i).filter fun o => gdV as o (tkV g as o) sh).map (rk3V g as) := hd
    have hi : i < os.length := (List.getElem?_eq_some_iff.mp hx).1
    obtain ⟨ho1, ho2, ho3⟩ := hom o (List.mem_of_getElem? hx)
    have hdl : d.length ≤ i := by
      rw [hd, List.length_map]
      exact Nat.le_trans (List.length_filter_le _ _) (by rw [List.length_take]; omega)
    have hft := filter_take (f := fun o => gdV as o (tkV g as o) sh) hx
    refine s_set 6 (d_call N.ticks (ok_ticks N T) (da_cons (d_var (ra := rGap) (x := g) 0 (da_cons (d_var (ra := rLst rArr) (x := as) 1 (da_one (d_var (ra := rOrd) (x := o) 5 (sw_f ⟨⟨hg, ha⟩, by dsimp only; omega, ho3⟩ ?_))))))))
    dsimp only
    have htp := tk_pos g ha ho3
    have htl := tk_len g as o
    have hgd := gd_two as o (tkV g as o) sh
    have hat : ∀ (j : Nat), j < o.length → (atI o (j : Int) = some (o.getD j 0) ∧ InR as.length (o.getD j 0)) ∧ atI (tkV g as o) (j : Int) = some ((tkV g as o).getD j 0) := fun j hj => by
      have h1 : o[j]? = some (o.getD j 0) := getD_at hj
      have h2 : (tkV g as o)[j]? = some ((tkV g as o).getD j 0) := getD_at (by omega)
      exact ⟨⟨atI_nat' h1, ho3 _ (List.mem_of_getElem? h1)⟩, atI_nat' h2⟩
    refine s_lcF 7 (js := [9]) (ra := rInt) (rb := rInt) (f := fun k : Int => k) (g := ltF as o (tkV g as o)) [("_law_k", 9)] [9] (fun _ => blkOk_by (N := N_best) (sc := defScope s_best) (by decide +kernel)) (w_rng1 T.range (d_callB T.len bt_len (da_one (d_var (ra := rOrd) (x := o) 5 (c_lenT ⟨by omega, ⟨rfl, (by rw [rgI_len]; omega), fun gg D ys k hk2 => (g_name 9 ?_), ?_⟩⟩)))))
    · obtain ⟨j, hj⟩ := List.getElem?_of_mem hk2
      obtain ⟨hlt, ex⟩ := rgI_item hj
      have ex : k = (j : Int) := by omega
      subst ex
      obtain ⟨⟨a1, a2⟩, a3⟩ := hat j (by omega)
      exact dts_one (dt_then (x := ltF as o (tkV g as o) (j : Int)) (dt_cmp (d_ix (d_var (ra := rLst rInt) (x := tkV g as o) 6 (d_var (ra := rInt) (x := (j : Int)) 9 (i_lst a3 (d_ix (d_ix (d_var (ra := rLst rArr) (x := as) 1 (d_ix (d_var (ra := rOrd) (x := o) 5 (d_var (ra := rInt) (x := (j : Int)) 9 (i_tpv a1 (i_lst (arr_at a2) (d_int (i_tup 2 (o_gt ⟨rfl, rfl⟩)))))))))))))))) ⟨rfl, rfl, fun hb => d_var (ra := rInt) (x := (j : Int)) 9 ⟨rfl, rfl⟩⟩)
    rw [Int.toNat_natCast, List.map_id']
    refine s_lcF 8 (js := [9]) (ra := rInt) (rb := rInt) (f := fun k : Int => k) (g := faF as o sh) [("_law_k", 9)] [9] (fun _ => blkOk_by (N := N_best) (sc := defScope s_best) (by decide +kernel)) (w_rng1 T.range (d_callB T.len bt_len (da_one (d_var (ra := rOrd) (x := o) 5 (c_lenT ⟨by omega, ⟨rfl, (by rw [rgI_len]; omega), fun gg D ys k hk2 => (g_name 9 ?_), ?_⟩⟩)))))
    · obtain ⟨j, hj⟩ := List.getElem?_of_mem hk2
      obtain ⟨hlt, ex⟩ := rgI_item hj
      have ex : k = (j : Int) := by omega
      subst ex
      obtain ⟨⟨a1, a2⟩, a3⟩ := hat j (by omega)
      have hri := hrm _ a2
      have hpi := hrp (o.getD j 0)
      refine dts_one (dt_then (x := faF as o sh (j : Int)) (dt_cmp (d_callB T.abs bt_abs (da_one (d_bin (d_index (rc := rBf) (d_var (ra := rLst rBf) (x := rk) 3 (d_tup (da_cons (d_ix (d_ix (d_var (ra := rLst rArr) (x := as) 1 (d_ix (d_var (ra := rOrd) (x := o) 5 (d_var (ra := rInt) (x := (j : Int)) 9 (i_tpv a1 (i_lst (arr_at a2) (d_int (i_tup 1 (da_one (d_ix (d_var (ra := rOrd) (x := o) 5 (d_var (ra := rInt) (x := (j : Int)) 9 (i_tpv a1 ⟨hri, fun _ _ => ⟨trivial, trivial⟩, ⟨trivial, trivial⟩, (d_var (ra := rInt) (x := (j : Int)) 9 (o_sub (c_abs (d_var (ra := rInt) (x := sh) 2 (o_gt ⟨?_, rfl⟩)))))⟩))))))))))))))))))))))) ⟨rfl, rfl, fun hb => d_var (ra := rInt) (x := (j : Int)) 9 ⟨rfl, rfl⟩⟩)
      show decide (absV (((ixB rk ((arV as (o.getD j 0)).2.1, o.getD j 0) : Nat) : Int) - (j : Int)) > sh) = decide (absV (posI as (o.getD (j : Int).toNat 0) - (j : Int)) > sh)
      rw [Int.toNat_natCast, hpi]
    rw [Int.toNat_natCast, List.map_id']
    generalize (rgI 0 1 o.length).filter (ltF as o (tkV g as o)) = l1 at hgd ⊢
    generalize (rgI 0 1 o.length).filter (faF as o sh) = l2 at hgd ⊢
    refine s_ifP (x := gdV as o (tkV g as o) sh) (dt_then (x := decide ((l1.length : Int) = 0) && decide ((l2.length : Int) = 0)) (dt_bool (dp_andP (x := decide ((l1.length : Int) = 0)) (dt_cmp (d_callB T.len bt_len (da_one (d_var (ra := rLst rInt) (x := l1) 7 (c_lenL (d_int (o_eqI ⟨rfl, rfl⟩))))))) (fun _ => dp_and1 (dt_cmp (d_callB T.len bt_len (da_one (d_var (ra := rLst rInt) (x := l2) 8 (c_lenL (d_int (o_eqI ⟨rfl, rfl⟩)))))))))) ⟨hgd, rfl⟩) (fun hb => ?_) (fun hb => ?_)
    · refine s_expr (d_app (ra := rR3) (d_var (ra := rAdr) (x := q) 4 ⟨_, _, inferInstance, d_tup (da_cons (d_callB T.max bt_max (da_one (d_bin (d_var (ra := rLst rInt) (x := tkV g as o) 6 (d_lst (ra := rInt) (da_all (d_int (da_all0 ⟨(by walk_at "sc"), o_cat ?_ (c_maxL ?_ (fun m hm1 hm2 => (da_cons (d_callB T.sum bt_sum (da_one (d_var (ra := rLst rInt) (x := tkV g as o) 6 (c_sumL (da_one (d_var (ra := rOrd) (x := o) 5 ⟨_, _, inferInstance, by omega, ?_⟩)))))))))⟩)))))))))⟩))
      · show (tkV g as o).length + 1 ≤ sizeLine
        omega
      · rw [List.length_append]
        show 0 < _ + 1
        omega
      · rw [mx0_two htp hm1 hm2]
        refine s_out (s_next _ ?_ ⟨rfl, rfl, rfl, rfl, rfl, trivial⟩ rfl)
        show _ = ((os.take (i + 1)).filter fun o => gdV as o (tkV g as o) sh).map (rk3V g as)
        rw [hft, if_pos hb, List.map_append, ← hd]
        rfl
    · refine s_out (s_next d ?_ ⟨rfl, rfl, rfl, rfl, rfl, trivial⟩ rfl)
      show _ = ((os.take (i + 1)).filter fun o => gdV as o (tkV g as o) sh).map (rk3V g as)
      rw [hft, if_neg (by rw [hb]; decide), ← hd]
  · have hd : d = ((os.take os.length).filter fun o => gdV as o (tkV g as o) sh).map (rk3V g as) := hd
    rw [List.take_length] at hd
    rw [← hd] at hlb
    have hdl : d.length ≤ 46656 := by
      rw [hd, List.length_map]
      exact Nat.le_trans (List.length_filter_le _ _) hol
    clear hd
    refine s_ret (ra := rOpt rOrd) (d_iteP (x := decide ((d.length : Int) > 0)) (dt_cmp (d_callB T.len bt_len (da_one (d_var (ra := rAdr) (x := q) 4 (c_lenG (rb := rR3) (d_int (o_gt ⟨rfl, rfl⟩))))))) (fun hb => ?_) (fun hb => ?_))
    · have hb := of_decide_eq_true hb
      have hlen : (d.mergeSort (PySem.W.dataLe false eR3)).length = d.length := List.length_mergeSort _
      obtain ⟨r, gr, hr⟩ : ∃ r, atI (d.mergeSort (PySem.W.dataLe false eR3)) 0 = some r ∧ lb3V g as sh = some r.2.2 := by
        generalize d.mergeSort (PySem.W.dataLe false eR3) = ss at hlb hlen
        rcases ss with _ | ⟨r, tl⟩
        · exact absurd hlen (by show ¬ 0 = d.length; omega)
        · exact ⟨r, atI_nat' (k := 0) rfl, hlb⟩
      exact d_some (ra := rOrd) (d_ix (d_ix (ra := rLst rR3) (d_callB T.sorted bt_sorted (da_one (d_var (ra := rAdr) (x := q) 4 (c_sortX (rb := rR3) (d_int (i_lst gr (d_int (i_tup 2 (hk' hr))))))))))) 
    · have hb := of_decide_eq_false hb
      have e : d = [] := List.eq_nil_of_length_eq_zero (by omega)
      subst e
      exact d_none (hk' (by rw [hlb, List.mergeSort_nil]))
end
end Law
set_option Elab.async false
set_option linter.all false
set_option maxRecDepth 100000
set_option maxHeartbeats 1500000
set_option synthInstance.maxSize 4000
set_option synthInstance.maxHeartbeats 400000
/-! SeD: what the law awaits (k37). -/
namespace Law
open PySem L2 Evl Sk MP M10
local macro_rules | `(tactic| walk_at "sc") => `(tactic| first | omega | assumption | trivial | (with_reducible exact mulOk) | (with_reducible exact smOk) | (with_reducible exact ⟨by decide, smOk⟩) | (with_reducible exact ⟨by omega, smOk⟩) | decide | rfl | (simp only [List.length_cons, List.length_nil]; decide) | exact divOk (by omega))
theorem isi_t_l : kitB "tuple" "list" = some false := by decide +kernel
theorem win_early {tt : Int} : ∀ {bs : List B4} {t : Int}, t + (((rgI 0 1 bs.length).filter (fun k => decide ((bs.getD k.toNat (0, 0, 0, 0)).2.1 ≥ tt))) ++ [(bs.length : Int)]).getD 0 0 = winE tt t bs := by
  intro bs
  have key : ∀ (m : Nat) (xs : List B4) (t : Int), t + (((List.range xs.length).filter (fun k => decide ((xs.getD k (0, 0, 0, 0)).2.1 ≥ tt))).map (fun k : Nat => (k : Int) ) ++ [(xs.length : Int)]).getD 0 0 = winE tt t xs := by
    intro m xs
    induction xs with
    | nil => intro t; show t + 0 = t; omega
    | cons b xs ih =>
      intro t
      rw [List.length_cons, List.range_succ_eq_map, List.filter_cons]
      unfold winE
      by_cases hb : tt ≤ b.2.1
      · rw [if_pos hb, if_pos (decide_eq_true (show ((b :: xs).getD 0 (0, 0, 0, 0)).2.1 ≥ tt from hb))]
        show t + (0 : Int) = t
        omega
      · rw [if_neg hb, if_neg (by rw [decide_eq_false (show ¬ ((b :: xs).getD 0 (0, 0, 0, 0)).2.1 ≥ tt from hb)]; exact Bool.false_ne_true)]
        have h := ih (t + 1)
        rw [← h, List.filter_map, List.map_map]
        have e : (fun k => decide (((b :: xs).getD k (0, 0, 0, 0)).2.1 ≥ tt)) ∘ Nat.succ = fun k => decide ((xs.getD k (0, 0, 0, 0)).2.1 ≥ tt) := by
          funext k
          rfl
        rw [e]
        generalize (List.range xs.length).filter (fun k => decide ((xs.getD k (0, 0, 0, 0)).2.1 ≥ tt)) = fs
        rcases fs with _ | ⟨f, fs⟩
        · show t + ((xs.length + 1 : Nat) : Int) = t + 1 + (xs.length : Int)
          omega
        · show t + ((f + 1 : Nat) : Int) = t + 1 + (f : Int)
          omega
  intro t
  rw [← key 0 bs t]
  have e : (rgI 0 1 bs.length).filter (fun k => decide ((bs.getD k.toNat (0, 0, 0, 0)).2.1 ≥ tt)) = ((List.range bs.length).filter (fun k => decide ((bs.getD k (0, 0, 0, 0)).2.1 ≥ tt))).map (fun k : Nat => (k : Int)) := by
    have er : rgI 0 1 bs.length = (List.range bs.length).map (fun k : Nat => (k : Int)) := by
      refine List.ext_getElem? fun i => ?_
      by_cases h : i < bs.length
      · have hl : i < (rgI 0 1 bs.length).length := by rw [rgI_len]; exact h
        have g := List.getElem?_eq_getElem hl
        obtain ⟨_, ex⟩ := rgI_item g
        rw [g, ex, range_map_get h]
        congr 1
        omega
      · rw [List.getElem?_eq_none (by rw [rgI_len]; omega), List.getElem?_eq_none (by rw [List.length_map, List.length_range]; omega)]
    rw [er, List.filter_map]
    rfl
  rw [e]
section
variable {P : Program} {w : World} {K : PySem.W.Frag} {mg : Str → Option Value} {base : Heap}
abbrev sp_ready (T : List Addr) (K : Fg) : Sp := spF K T (fCons rChart (fCons (rDt rInt) (fCons rRules (fCons (rLst rWnd) (fOne rRq))))) (fun x => (SqI x.1 x.2.2.1 x.2.2.2.1 ∧ RqB x.1 x.2.2.2.2) ∧ LenOk x.1 x.2.1) (rOpt rInt) fun x => feV x.1 x.2.2.1 x.2.2.2.1 x.2.2.2.2
abbrev N_ready : List Str := ["_law_chart_here", "_law_lengths_here", "_law_rules_here", "_law_winds_here", "_law_request_here", "_law_course", "_law_entry", "_law_begins_here", "_law_box", "_law_boxes", "_law_total", "_law_early", "_law_k"]
theorem sc_ready : FnScope N_ready ["_law_chart_here", "_law_lengths_here", "_law_rules_here", "_law_winds_here", "_law_request_here"] (defScope s_ready) := ⟨rfl, rfl, rfl, by decide +kernel, rfl, by decide +kernel, by decide +kernel⟩
theorem ok_ready (N : Nm K mg) (T : Bt mg) (Y : Tb0 N base) (hP : P.main = pM) : FnOk P w K mg base CX0 8 N.ready.f N.ready.fd ["_law_chart_here", "_law_lengths_here", "_law_rules_here", "_law_winds_here", "_law_request_here"] (sp_ready (tsOf N) K) := by
  refine fn_m N.ready.F sc_ready (tsOf N) fun cdv A outer s G H E x Q fam hp hk => ?_
  obtain ⟨c, L, ru, ws, q⟩ := x
  obtain ⟨⟨hi, hb⟩, hL⟩ := hp
  have hi : SqI c ru ws := hi
  have hb : RqB c q := hb
  have hL : LenOk c L := hL
  have hR := hb.r
  have z1 : 100000 ≤ sizeLine := by decide
  have hch := hi.ch
  have hhr := hi.h
  have hsl := hi.s
  have hwd := hi.w
  have hbt := hb.t
  have hbl := hb.l
  have hkd := hb.k
  have hml := mnv_len c q
  have hmm : ∀ o ∈ mnV q (psbV c q), RtV c o.1.1 ∧ 0 ≤ o.2 ∧ o.2 ≤ 2000 := fun o ho => by
    obtain ⟨h1, h2⟩ := mn_mem ho
    exact ⟨psb_rt hR h1, by omega, by omega⟩
  have hk' : ∀ {Γ : Gm} {O : List Own} {y : Option Int}, feV c ru ws q = y → RT K ⟨tsOf N, _, G, H, []⟩ Γ O (rOpt rInt) y _ := fun {Γ O y} e => rt_drop (hk ⟨rfl, e.symm⟩)
  clear hk
  have hfe : feV c ru ws q = (mnV q (psbV c q)).findSome? (rdO c ru ws q) := rfl
  show DS _ K ⟨tsOf N, _, G, H, []⟩ [some ⟨rChart, c⟩, some ⟨rDt rInt, L⟩, some ⟨rRules, ru⟩, some ⟨rLst rWnd, ws⟩, some ⟨rRq, q⟩, none, none, none, none, none, none, none, none] [] (defBody s_ready) _
  refine s_for (js := [5, 6]) (w_lst (ra := rOp) (d_frzE (ra := rOp) (d_call N.menu (ok_menu N T Y hP) (da_cons (d_var (ra := rChart) (x := c) 0 (da_one (d_var (ra := rRq) (x := q) 4 (sw_nF hR (fun p d hd hM => ⟨d, _, rfl, hM, ?_⟩)))))))))
  have hd : d = mnV q (psbV c q) := hd
  subst hd
  generalize mnV q (psbV c q) = os at hml hmm hfe ⊢
  refine ⟨Unit, fun i _ => ∀ (j : Nat) (o : Op), j < i → os[j]? = some o → rdO c ru ws q o = none, fun _ => [some ⟨rChart, c⟩, some ⟨rDt rInt, L⟩, some ⟨rRules, ru⟩, some ⟨rLst rWnd, ws⟩, some ⟨rRq, q⟩, none, none, none, none, none, none, none, none], fun _ => [], ⟨(), fun j o h => absurd h (Nat.not_lt_zero _), ⟨rfl, rfl, rfl, rfl, rfl, trivial⟩, rfl⟩, fun gg i o d hx hd => ?_, fun d hd => ?_⟩
  · obtain ⟨ho1, ho2, ho3⟩ := hmm o (List.mem_of_getElem? hx)
    refine g_tup (gs_cons (g_name 5 (gs_one (g_name 6 ?_))))
    obtain ⟨⟨r, sp, lv⟩, en⟩ := o
    dsimp only at ho1 ho2 ho3 ⊢
    have h2 := ho1.two
    have hlen := ho1.len
    refine s_set 7 (d_call N.begins (ok_begins N T) (da_cons (d_var (ra := rDt rInt) (x := L) 1 (da_one (d_ix (d_var (ra := rCrs) (x := (r, sp, lv)) 5 (d_int (i_tup 0 (sw_f ⟨h2, hlen, fun j hj => ⟨_, LenOk.at hL ho1 hj⟩⟩ ?_)))))))))
    dsimp only
    rw [bgLs_eq hL ho1]
    have hbl2 := begins_len (fxOf c) r
    have gt : atI (begins (fxOf c) r) (((begins (fxOf c) r).length : Int) - 1) = some (tot (fxOf c) r) := by
      refine atI_int (by omega) ?_
      rw [show (((begins (fxOf c) r).length : Int) - 1).toNat = r.length - 1 by omega]
      exact bg_get (by omega)
    refine s_set 8 (ra := rB4) (d_tup (da_cons (d_un (d_ix (d_var (ra := rRq) (x := q) 4 (d_int (i_tup 7 (u_neg (da_cons (d_int (da_cons (d_ix (d_var (ra := rRq) (x := q) 4 (d_int (i_tup 4 (da_one (d_ix (d_var (ra := rRq) (x := q) 4 (d_int (i_tup 4 ?_))))))))))))))))))))
    have lto : LtOk ((c, r, begins (fxOf c) r, (r, sp, lv), q.2.1, ru, ws, en, bxO q) : LtA) := ⟨hch, ho1, rfl, hsl, hwd, hkd.m.1, by dsimp only; omega, ⟨by dsimp only; omega, Int.le_refl _⟩, by show (hrOf c).length ≤ 1000; rw [hhr]; exact Nat.zero_le _, by show HrsOk (hrOf c); rw [hhr]; exact fun h hh => absurd hh List.not_mem_nil⟩
    refine s_set 9 (ra := rRes) (d_call N.law_tube (ok_law_tube N T) (da_cons (d_var (ra := rChart) (x := c) 0 (da_cons (d_ix (d_var (ra := rCrs) (x := (r, sp, lv)) 5 (d_int (i_tup 0 (da_cons (d_var (ra := rLst rInt) (x := begins (fxOf c) r) 7 (da_cons (d_var (ra := rCrs) (x := (r, sp, lv)) 5 (da_cons (d_ix (d_var (ra := rRq) (x := q) 4 (d_int (i_tup 1 (da_cons (d_var (ra := rRules) (x := ru) 2 (da_cons (d_var (ra := rLst rWnd) (x := ws) 3 (da_cons (d_var (ra := rInt) (x := en) 6 (da_one (d_var (ra := rB4) (x := bxO q) 8 (sw_m [] lto (fun w hw => by simpa using hw) (fun z => by simpa using z) (fun y O' hy => ?_)))))))))))))))))))))))))))
    have hy : ResP (inO c ru ws q ((r, sp, lv), en)) en (bxO q) y O' := hy
    rcases y with qb | ⟨cc, t'⟩
    · obtain ⟨bs, hout, eO⟩ := hy
      subst eO
      have hrd : rdO c ru ws q ((r, sp, lv), en) = some (winE (tot (fxOf c) r) en bs) := by
        unfold rdO
        rw [tbO_out hout]
        rfl
      have hfs := fe_some hd hx hrd
      rw [← hfe] at hfs
      rw [hfs] at hk'
      have hbsl : bs.length ≤ 240 := by
        obtain ⟨_, b, h, _⟩ := hout
        exact h.len
      show DS _ K _ [some ⟨rChart, c⟩, some ⟨rDt rInt, L⟩, some ⟨rRules, ru⟩, some ⟨rLst rWnd, ws⟩, some ⟨rRq, q⟩, some ⟨rCrs, (r, sp, lv)⟩, some ⟨rInt, en⟩, some ⟨rLst rInt, begins (fxOf c) r⟩, some ⟨rB4, bxO q⟩, some ⟨rRes, .inl qb⟩, none, none, none] [⟨qb, oLst rB4, bs⟩] _ _
      refine s_re (ra := rRes) (x := .inl qb) (rb := rAdr) (y := qb) 9 (fun h => h) ?_
      refine s_ifP (x := true) (dt_val (d_callB T.isi bt_isi (da_cons (d_var (ra := rAdr) (x := qb) 9 (da_one (d_cls T.list bt_list (c_isiO (rb := rB4) (b := true) (kit_ty isi_list_list) ⟨rfl, rfl⟩))))))) (fun _ => ?_) (fun hb => Bool.noConfusion hb)
      refine s_set 10 (d_ix (d_var (ra := rLst rInt) (x := begins (fxOf c) r) 7 (d_bin (d_callB T.len bt_len (da_one (d_var (ra := rLst rInt) (x := begins (fxOf c) r) 7 (c_lenL (d_int (o_sub (i_lst gt ?_))))))))))
      have hwe := win_early (tt := tot (fxOf c) r) (bs := bs) (t := en)
      have hfl := List.length_filter_le (fun k : Int => decide ((bs.getD k.toNat (0, 0, 0, 0)).2.1 ≥ tot (fxOf c) r)) (rgI 0 1 bs.length)
      rw [rgI_len] at hfl
      refine s_set 11 (d_bin (d_lcF (js := [12]) (ra := rInt) (rb := rInt) (f := fun k : Int => k) (g := fun k : Int => decide ((bs.getD k.toNat (0, 0, 0, 0)).2.1 ≥ tot (fxOf c) r)) [("_law_k", 12)] [12] (fun _ => blkOk_by (N := N_ready) (sc := defScope s_ready) (by decide +kernel)) (w_rng1 T.range (d_callB T.len bt_len (da_one (d_var (ra := rAdr) (x := qb) 9 (c_lenG (rb := rB4) ⟨by omega, ⟨rfl, (by rw [rgI_len]; omega), fun gg D ys k hk2 => (g_name 12 ?_), d_lst (ra := rInt) (da_all (d_callB T.len bt_len (da_one (d_var (ra := rAdr) (x := qb) 9 (c_lenG (rb := rB4) (da_all0 ⟨(by walk_at "sc"), o_cat ?_ ?_⟩))))))⟩⟩)))))))
      · obtain ⟨j, hj⟩ := List.getElem?_of_mem hk2
        obtain ⟨hlt, ex⟩ := rgI_item hj
        have ex : k = (j : Int) := by omega
        subst ex
        have hlt2 : j < bs.length := by omega
        have gj : atI bs (j : Int) = some (bs.getD j (0, 0, 0, 0)) := atI_nat' (by rw [List.getD_eq_getElem?_getD, List.getElem?_eq_getElem hlt2]; rfl)
        exact dts_one (dt_then (x := decide ((bs.getD j (0, 0, 0, 0)).2.1 ≥ tot (fxOf c) r)) (dt_cmp (d_ix (d_ix (d_var (ra := rAdr) (x := qb) 9 (d_var (ra := rInt) (x := (j : Int)) 12 (i_ls (rb := rB4) gj (d_int (i_tup 1 (d_var (ra := rInt) (x := tot (fxOf c) r) 10 (o_ge ⟨rfl, rfl⟩)))))))))) ⟨rfl, rfl, fun hb => d_var (ra := rInt) (x := (j : Int)) 12 ⟨rfl, rfl⟩⟩)
      · rw [List.map_id', Int.toNat_natCast]
        show _ + 1 ≤ sizeLine
        omega
      rw [List.map_id', Int.toNat_natCast]
      generalize hes : (rgI 0 1 bs.length).filter (fun k : Int => decide ((bs.getD k.toNat (0, 0, 0, 0)).2.1 ≥ tot (fxOf c) r)) ++ [(bs.length : Int)] = es at hwe ⊢
      have g0 : atI es 0 = some (es.getD 0 0) := by
        refine atI_nat' (k := 0) ?_
        have hpos : 0 < es.length := by
          rw [← hes, List.length_append]
          exact Nat.succ_pos _
        rw [List.getD_eq_getElem?_getD, List.getElem?_eq_getElem hpos]
        rfl
      refine s_ret (d_some (ra := rInt) (d_bin (d_var (ra := rInt) (x := en) 6 (d_ix (d_var (ra := rLst rInt) (x := es) 11 (d_int (i_lst g0 (o_add (rt_in (hk' ?_))))))))))
      rw [hwe]
    · obtain ⟨herr, eO⟩ := hy
      subst eO
      show DS _ K _ [some ⟨rChart, c⟩, some ⟨rDt rInt, L⟩, some ⟨rRules, ru⟩, some ⟨rLst rWnd, ws⟩, some ⟨rRq, q⟩, some ⟨rCrs, (r, sp, lv)⟩, some ⟨rInt, en⟩, some ⟨rLst rInt, begins (fxOf c) r⟩, some ⟨rB4, bxO q⟩, some ⟨rRes, .inr (cc, t')⟩, none, none, none] [] _ _
      refine s_re (ra := rRes) (x := .inr (cc, t')) (rb := rCT) (y := (cc, t')) 9 (fun h => h) ?_
      refine s_ifP (x := false) (dt_val (d_callB T.isi bt_isi (da_cons (d_var (ra := rCT) (x := (cc, t')) 9 (da_one (d_cls T.list bt_list (c_isi (b := false) (kit_ty isi_t_l) ⟨rfl, rfl⟩))))))) (fun hb => Bool.noConfusion hb) (fun _ => s_out ?_)
      refine s_next () (fun j o hj ho => ?_) ⟨rfl, rfl, rfl, rfl, rfl, trivial⟩ rfl
      by_cases e : j = i
      · subst e
        rw [hx] at ho
        have ho := Option.some.inj ho
        subst ho
        unfold rdO
        have herr : TubeErr (inO c ru ws q ((r, sp, lv), en)) en (bxO q) cc t' := herr
        rw [tbO_err herr]
        rfl
      · exact hd j o (by omega) ho
  · have hfn : feV c ru ws q = none := by
      rw [hfe]
      exact fe_none fun j o hj => hd j o (List.getElem?_eq_some_iff.mp hj).1 hj
    exact s_ret (d_none (hk' hfn))
end
end Law
set_option Elab.async false
set_option linter.all false
set_option maxRecDepth 100000
set_option maxHeartbeats 1500000
set_option synthInstance.maxSize 4000
set_option synthInstance.maxHeartbeats 400000
/-! SeE: the answer that is due, the answer found (k37). -/
namespace Law
open PySem L2 Evl Sk MP M10
local macro_rules | `(tactic| walk_at "sc") => `(tactic| first | omega | assumption | trivial | (with_reducible exact mulOk) | (with_reducible exact smOk) | (with_reducible exact ⟨by decide, smOk⟩) | (with_reducible exact ⟨by omega, smOk⟩) | decide | rfl | (simp only [List.length_cons, List.length_nil]; decide) | exact divOk (by omega))
abbrev rDu : Rp (Str ⊕ List Rq) := rSum rStr (rLst rRq)
section
variable {P : Program} {w : World} {K : PySem.W.Frag} {mg : Str → Option Value} {base : Heap}
abbrev DuA := ChV × List (List Key × Int) × RuV × List M10.W4 × List Rq × Int
abbrev sp_due (T : List Addr) (K : Fg) : Sp := spF K T (fCons rChart (fCons (rDt rInt) (fCons rRules (fCons (rLst rWnd) (fCons (rLst rRq) (fOne rInt)))))) (fun x : DuA => SqOk x.1 x.2.2.1 x.2.2.2.1 x.2.2.2.2.1 ∧ LenOk x.1 x.2.1) rDu fun x => sqV x.1 x.2.2.1 x.2.2.2.1 x.2.2.2.2.1 x.2.2.2.2.2
abbrev N_due : List Str := ["_law_chart_here", "_law_lengths_here", "_law_rules_here", "_law_winds_here", "_law_requests", "_law_shift", "_law_request_here", "_law_arrivals", "_law_ready_here", "_law_order", "_law_index"]
theorem sc_due : FnScope N_due ["_law_chart_here", "_law_lengths_here", "_law_rules_here", "_law_winds_here", "_law_requests", "_law_shift"] (defScope s_due) := ⟨rfl, rfl, rfl, by decide +kernel, rfl, by decide +kernel, by decide +kernel⟩
theorem ok_due (N : Nm K mg) (T : Bt mg) (Y : Tb0 N base) (hP : P.main = pM) : FnOk P w K mg base CX0 9 N.due.f N.due.fd ["_law_chart_here", "_law_lengths_here", "_law_rules_here", "_law_winds_here", "_law_requests", "_law_shift"] (sp_due (tsOf N) K) := by
  refine fn_m N.due.F sc_due (tsOf N) fun cdv A outer s G H E x Q fam hp hk => ?_
  obtain ⟨c, L, ru, ws, rs, sh⟩ := x
  obtain ⟨hp, hL⟩ := hp
  have hp : SqOk c ru ws rs := hp
  have hL : LenOk c L := hL
  have hl := hp.l
  have z1 : 100000 ≤ sizeLine := by decide
  have hk' : ∀ {Γ : Gm} {O : List Own} {y : Str ⊕ List Rq}, sqV c ru ws rs sh = y → RT K ⟨tsOf N, _, G, H, []⟩ Γ O rDu y _ := fun {Γ O y} e => rt_drop (hk ⟨rfl, e.symm⟩)
  clear hk
  show DS _ K ⟨tsOf N, _, G, H, []⟩ [some ⟨rChart, c⟩, some ⟨rDt rInt, L⟩, some ⟨rRules, ru⟩, some ⟨rLst rWnd, ws⟩, some ⟨rLst rRq, rs⟩, some ⟨rInt, sh⟩, none, none, none, none, none] [] (defBody s_due) _
  refine s_for (js := [6]) (w_lst (d_var (ra := rLst rRq) (x := rs) 4 ?_))
  refine ⟨Unit, fun i _ => ∀ (j : Nat) (q : Rq), j < i → rs[j]? = some q → badR c (rs.getD 0 rq0) q = false, fun _ => [some ⟨rChart, c⟩, some ⟨rDt rInt, L⟩, some ⟨rRules, ru⟩, some ⟨rLst rWnd, ws⟩, some ⟨rLst rRq, rs⟩, some ⟨rInt, sh⟩, none, none, none, none, none], fun _ => [], ⟨(), fun j q h => absurd h (Nat.not_lt_zero _), ⟨rfl, rfl, rfl, rfl, rfl, rfl, trivial⟩, rfl⟩, fun gg i q d hx hd => (g_name 6 ?_), fun d hd => ?_⟩
  · have hil : i < rs.length := (List.getElem?_eq_some_iff.mp hx).1
    have g0 : atI rs 0 = some (rs.getD 0 rq0) := atI_nat' (k := 0) (getD_at0 (by omega))
    refine s_ifP (x := badR c (rs.getD 0 rq0) q) (dt_bool (dp_orP (x := !decide (goV q ∈ rwOf c)) (dt_cmp (d_ix (d_var (ra := rRq) (x := q) 6 (d_int (i_tup 3 (d_recP 0 3 rfl chN_nd (o_notInL ⟨rfl, rfl⟩))))))) (fun _ => dp_or1 (dt_cmp (d_ix (d_var (ra := rRq) (x := q) 6 (d_int (i_tup 3 (d_ix (d_ix (d_var (ra := rLst rRq) (x := rs) 4 (d_int (i_lst g0 (d_int (i_tup 3 (o_neS ⟨rfl, rfl⟩)))))))))))))))) (fun hb => ?_) (fun hb => s_out ?_)
    · refine s_ret (d_inl (d_str (rt_in (hk' ?_))))
      unfold sqV
      rw [if_pos (any_yes hx hb)]
    · refine s_next () (fun j z hj hz => ?_) ⟨rfl, rfl, rfl, rfl, rfl, rfl, trivial⟩ rfl
      by_cases e : j = i
      · subst e
        rw [hx] at hz
        rw [← Option.some.inj hz]
        exact hb
      · exact hd j z (by omega) hz
  have hrun : ¬ rs.any (badR c (rs.getD 0 rq0)) = true := by rw [any_no hd]; exact Bool.false_ne_true
  clear hd
  refine s_set 7 (d_lstO (ra := rArr) (da_all0 ⟨(by walk_at "sc"), fun p hpM => ?_⟩))
  refine s_for (js := [6]) (w_lst (d_var (ra := rLst rRq) (x := rs) 4 ?_))
  refine ⟨List Arr, fun i D => D = asV c ru ws (rs.take i) ∧ ∀ (j : Nat) (q : Rq), j < i → rs[j]? = some q → (feV c ru ws q).isNone = false, fun _ => [some ⟨rChart, c⟩, some ⟨rDt rInt, L⟩, some ⟨rRules, ru⟩, some ⟨rLst rWnd, ws⟩, some ⟨rLst rRq, rs⟩, some ⟨rInt, sh⟩, none, some ⟨rAdr, p⟩, none, none, none], fun D => [⟨p, oLst rArr, D⟩], ⟨[], ⟨rfl, fun j q h => absurd h (Nat.not_lt_zero _)⟩, ⟨rfl, rfl, rfl, rfl, rfl, rfl, rfl, trivial⟩, rfl⟩, fun gg i q D hx hD => (g_name 6 ?_), fun D hD => ?_⟩
  · obtain ⟨hD, hd⟩ := hD
    have hil : i < rs.length := (List.getElem?_eq_some_iff.mp hx).1
    have hDl : D.length ≤ 6 := by
      rw [hD]
      unfold asV
      rw [List.length_map, List.length_take]
      omega
    have hb := hp.r q (List.mem_of_getElem? hx)
    refine s_set 8 (d_call N.ready (ok_ready N T Y hP) (da_cons (d_var (ra := rChart) (x := c) 0 (da_cons (d_var (ra := rDt rInt) (x := L) 1 (da_cons (d_var (ra := rRules) (x := ru) 2 (da_cons (d_var (ra := rLst rWnd) (x := ws) 3 (da_one (d_var (ra := rRq) (x := q) 6 (sw_f ⟨⟨hp.i, hb⟩, hL⟩ ?_))))))))))))
    dsimp only
    cases hfe : feV c ru ws q with
    | none =>
      refine s_ifP (x := true) (dt_cmp (d_var (ra := rOpt rInt) (x := none) 8 (d_non (o_isN ⟨rfl, rfl⟩)))) (fun _ => ?_) (fun hb => Bool.noConfusion hb)
      refine s_ret (d_inl (d_str (rt_in (hk' ?_))))
      unfold sqV
      rw [if_neg hrun, if_pos (any_yes hx (by rw [hfe]; rfl))]
    | some r =>
      refine s_ifP (x := false) (dt_cmp (d_var (ra := rOpt rInt) (x := some r) 8 (d_non (o_isN ⟨rfl, rfl⟩)))) (fun hb => Bool.noConfusion hb) (fun _ => s_out ?_)
      refine s_some (ra := rInt) 8 ?_
      refine s_expr (d_app (ra := rArr) (d_var (ra := rAdr) (x := p) 7 ⟨_, _, inferInstance, d_tup (da_cons (d_ix (d_ix (d_var (ra := rRq) (x := q) 6 (d_int (i_tup 1 (d_int (i_tup 0 (da_cons (d_var (ra := rInt) (x := r) 8 (da_one (d_bin (d_var (ra := rInt) (x := r) 8 (d_int (o_add ⟨_, _, inferInstance, ?_, ?_⟩)))))))))))))))⟩))
      · show D.length < sizeLine
        omega
      · refine s_next (D ++ [arV3 q r]) ⟨?_, fun j z hj hz => ?_⟩ ⟨rfl, rfl, rfl, rfl, rfl, rfl, rfl, trivial⟩ rfl
        · show D ++ [arV3 q r] = (rs.take (i + 1)).map _
          rw [take_snoc hx, List.map_append, hD]
          show _ = _ ++ [arV3 q ((feV c ru ws q).getD 0)]
          rw [hfe]
          rfl
        · by_cases e : j = i
          · subst e
            rw [hx] at hz
            rw [← Option.some.inj hz, hfe]
            rfl
          · exact hd j z (by omega) hz
  obtain ⟨hD, hd⟩ := hD
  rw [List.take_length] at hD
  have hent : ¬ rs.any (fun q => (feV c ru ws q).isNone) = true := by rw [any_no hd]; exact Bool.false_ne_true
  clear hd
  subst hD
  refine s_frz 7 hpM ?_
  have hao := as_ok hp
  have hasl : (asV c ru ws rs).length = rs.length := List.length_map _
  have hbo : BeOk (gapsOf ru, asV c ru ws rs, sh) := ⟨hp.g, hao, by dsimp only; omega⟩
  have hsq : sqV c ru ws rs sh = match fiV (gapsOf ru) (asV c ru ws rs) sh with | none => .inl "none" | some r => .inr (pkV rs r.2.2.1) := by
    unfold sqV
    rw [if_neg hrun, if_neg hent] <;> rfl
  refine s_set 9 (d_call N.best (ok_best N T) (da_cons (d_recP 2 11 rfl ruN_nd (da_cons (d_var (ra := rLst rArr) (x := asV c ru ws rs) 7 (da_one (d_var (ra := rInt) (x := sh) 5 (sw_f ⟨hbo, by dsimp only; omega⟩ ?_))))))))
  have hbe := best3_eq (g := gapsOf ru) (sh := sh) hao
  dsimp only
  show DS _ K ⟨tsOf N, _, G, H, []⟩ [some ⟨rChart, c⟩, some ⟨rDt rInt, L⟩, some ⟨rRules, ru⟩, some ⟨rLst rWnd, ws⟩, some ⟨rLst rRq, rs⟩, some ⟨rInt, sh⟩, none, some ⟨rLst rArr, asV c ru ws rs⟩, none, some ⟨rOpt rOrd, lb3V (gapsOf ru) (asV c ru ws rs) sh⟩, none] [] _ _
  rw [hbe]
  cases hfi : fiV (gapsOf ru) (asV c ru ws rs) sh with
  | none =>
    rw [hfi] at hsq
    refine s_ret (ra := rDu) (d_iteP (x := true) (dt_cmp (d_var (ra := rOpt rOrd) (x := none) 9 (d_non (o_isN ⟨rfl, rfl⟩)))) (fun _ => d_inl (d_str (hk' hsq))) (fun hb => Bool.noConfusion hb))
  | some r =>
    obtain ⟨hol, hoi⟩ := fi_in hao hfi
    rw [hfi] at hsq
    have hsq : sqV c ru ws rs sh = .inr (pkV rs r.2.2.1) := hsq
    rw [hasl] at hol hoi
    obtain ⟨r1, r2, r3, r4⟩ := r
    dsimp only at hol hoi hsq
    show DS _ K ⟨tsOf N, _, G, H, []⟩ [some ⟨rChart, c⟩, some ⟨rDt rInt, L⟩, some ⟨rRules, ru⟩, some ⟨rLst rWnd, ws⟩, some ⟨rLst rRq, rs⟩, some ⟨rInt, sh⟩, none, some ⟨rLst rArr, asV c ru ws rs⟩, none, some ⟨rOpt rOrd, some r3⟩, none] [] _ _
    refine s_ret (ra := rDu) (d_iteP (x := false) (dt_cmp (d_var (ra := rOpt rOrd) (x := some r3) 9 (d_non (o_isN ⟨rfl, rfl⟩)))) (fun hb => Bool.noConfusion hb) (fun _ => d_inr (d_lcP (js := [10]) (ra := rInt) (rb := rRq) (f := fun i : Int => rs.getD i.toNat rq0) [("_law_index", 10)] [10] (fun _ => blkOk_by (N := N_due) (sc := defScope s_due) (by decide +kernel)) (w_tpv (d_re (x := fun _ _ => True) (ra := rOpt rOrd) (rc := rOrd) (d_var (ra := rOpt rOrd) (x := some r3) 9 ⟨r3, opt_get, ⟨rfl, by omega, fun gg D ys i hi => (g_name 10 ?_), hk' hsq⟩⟩))))))
    have hir := hoi i hi
    have gi : atI rs i = some (rs.getD i.toNat rq0) := atI_int hir.1 (getD_at0 (by have := hir.1; have := hir.2; omega))
    exact d_ix (d_var (ra := rLst rRq) (x := rs) 4 (d_var (ra := rInt) (x := i) 10 (i_lst gi ⟨rfl, rfl⟩)))
abbrev sp_found (T : List Addr) (K : Fg) : Sp := spF K T (fCons rChart (fCons rRules (fCons (rLst rWnd) (fCons (rLst rRq) (fOne rInt))))) (fun x : SqA => SqOk x.1 x.2.1 x.2.2.1 x.2.2.2.1) rDu fun x => sqV x.1 x.2.1 x.2.2.1 x.2.2.2.1 x.2.2.2.2
abbrev N_found : List Str := ["_law_chart_here", "_law_rules_here", "_law_winds_here", "_law_requests", "_law_shift", "e"]
theorem sc_found : FnScope N_found ["_law_chart_here", "_law_rules_here", "_law_winds_here", "_law_requests", "_law_shift"] (defScope s_found) := ⟨rfl, rfl, rfl, by decide +kernel, rfl, by decide +kernel, by decide +kernel⟩
theorem ok_found (N : Nm K mg) (T : Bt mg) (Y : Tb0 N base) (hP : P.main = pM) : FnOk P w K mg base CX0 15 N.found.f N.found.fd ["_law_chart_here", "_law_rules_here", "_law_winds_here", "_law_requests", "_law_shift"] (sp_found (tsOf N) K) := by
  refine fn_m N.found.F sc_found (tsOf N) fun cdv A outer s G H E x Q fam hp hk => ?_
  obtain ⟨c, ru, ws, rs, sh⟩ := x
  have hk' : ∀ {Γ : Gm} {y : Str ⊕ List Rq}, sqV c ru ws rs sh = y → RT K ⟨tsOf N, _, G, H, []⟩ Γ [] rDu y _ := fun {Γ y} e => hk ⟨rfl, e.symm⟩
  clear hk
  show DS _ K ⟨tsOf N, _, G, H, []⟩ [some ⟨rChart, c⟩, some ⟨rRules, ru⟩, some ⟨rLst rWnd, ws⟩, some ⟨rLst rRq, rs⟩, some ⟨rInt, sh⟩, none] [] (defBody s_found) _
  refine s_tryAsRet 5 (by rfl) (by rfl) (by exact ⟨rfl, by decide, Or.inl N.xSequenceError.m⟩) (d_re (x := fun _ _ => True) (ra := rLst rRq) (rc := rDu) (d_callX ft_tk N.sequenced (ok_sequenced N T Y hP) (da_cons (d_var 0 (da_cons (d_var 1 (da_cons (d_var 2 (da_cons (d_var 3 (da_one (d_var 4 (sw_0X hp (fun y hy => ⟨.inr y, fun h => h, hk' hy⟩) (fun C fl hxe => ?_))))))))))))))
  obtain ⟨eC, d, efl, herr⟩ := hxe
  subst eC efl
  exact xt_as (rb := rDu) N.xSequenceError.xm fun a dd => d_inl (d_xf (rb := rStr) rfl N.xSequenceError.xf (N.xSequenceError.na _ (List.mem_cons_self ..)) (d_var (ra := rXc dd (SqF d)) (x := a) 5 ⟨rfl, .str d, d, by rfl, rfl, hk' herr⟩))
end
end Law
set_option Elab.async false
set_option linter.all false
set_option maxRecDepth 100000
set_option maxHeartbeats 1500000
set_option synthInstance.maxSize 4000
set_option synthInstance.maxHeartbeats 400000
/-! Z37: the law of k37. -/
namespace Law
open PySem L2 Evl Sk MP M10
local macro_rules | `(tactic| walk_at "sc") => `(tactic| first | omega | assumption | trivial | (with_reducible exact mulOk) | (with_reducible exact smOk) | (with_reducible exact ⟨by decide, smOk⟩) | (with_reducible exact ⟨by omega, smOk⟩) | decide | rfl | (simp only [List.length_cons, List.length_nil]; decide) | exact divOk (by omega))
abbrev rSI : Rp (Str ⊕ Int) := rSum rStr rInt
abbrev sisV (l : Leg) : List (Str ⊕ Int) := [.inl l.1, .inl l.2.1, .inl l.2.2.1, .inr l.2.2.2.1, .inr l.2.2.2.2]
theorem si_of {K : Fg} {G : Hp} {v : V} {l : Leg} (h : rLeg.rep K G v l) : (rTpv rSI).rep K G v (sisV l) := by
  obtain ⟨a, vs, e, ht, v0, w0, e0, r0, v1, w1, e1, r1, v2, w2, e2, r2, v3, w3, e3, r3, v4, e4, r4⟩ := h
  subst e4 e3 e2 e1 e0
  exact ⟨a, _, e, ht, r0, r1, r2, r3, r4, trivial⟩
theorem si_to {K : Fg} {G : Hp} {v : V} {l : Leg} (h : (rTpv rSI).rep K G v (sisV l)) : rLeg.rep K G v l := by
  obtain ⟨a, vs, e, ht, hr⟩ := h
  obtain ⟨v0, w0, e0, r0, hr⟩ := all2_cons hr
  obtain ⟨v1, w1, e1, r1, hr⟩ := all2_cons hr
  obtain ⟨v2, w2, e2, r2, hr⟩ := all2_cons hr
  obtain ⟨v3, w3, e3, r3, hr⟩ := all2_cons hr
  obtain ⟨v4, w4, e4, r4, hr⟩ := all2_cons hr
  have e8 := all2_nil hr
  subst e8
  exact ⟨a, _, e, ht, _, _, e0, r0, _, _, e1, r1, _, _, e2, r2, _, _, e3, r3, _, e4, r4⟩
abbrev nm3 (l : Leg) : Str × Str × Str := (l.1, l.2.1, l.2.2.1)
theorem nm3_mem {D E : List Leg} (h : D.map nm3 = E.map nm3) {l : Leg} (hl : l ∈ D) : ∃ e ∈ E, e.1 = l.1 ∧ e.2.1 = l.2.1 ∧ e.2.2.1 = l.2.2.1 := by
  have h1 : nm3 l ∈ D.map nm3 := List.mem_map.mpr ⟨l, hl, rfl⟩
  rw [h] at h1
  obtain ⟨e, he, z⟩ := List.mem_map.mp h1
  have z1 := congrArg (fun x : Str × Str × Str => x.1) z
  have z2 := congrArg (fun x : Str × Str × Str => x.2.1) z
  have z3 := congrArg (fun x : Str × Str × Str => x.2.2) z
  exact ⟨e, he, z1, z2, z3⟩
theorem nm3_cnt {D E : List Leg} (h : D.map nm3 = E.map nm3) (n : Str) : (D.filter fun l => decide (l.1 = n)).length = (E.filter fun l => decide (l.1 = n)).length := by
  have k : ∀ X : List Leg, (X.filter fun l => decide (l.1 = n)).length = ((X.map nm3).filter fun t => decide (t.1 = n)).length := fun X => by
    rw [List.filter_map, List.length_map]
    rfl
  rw [k, k, h]
theorem LegIn.same {ns : List Str} {D E : List Leg} (h : D.map nm3 = E.map nm3) (z : LegIn ns E) : LegIn ns D where
  s := fun l hl => by obtain ⟨e, he, a, b, c⟩ := nm3_mem h hl; rw [← a]; exact z.s e he
  e := fun l hl => by obtain ⟨e, he, a, b, c⟩ := nm3_mem h hl; rw [← b]; exact z.e e he
  o := fun l hl => by obtain ⟨e, he, a, b, c⟩ := nm3_mem h hl; rw [← c]; exact z.o e he
  n := fun l hl => by obtain ⟨e, he, a, b, c⟩ := nm3_mem h hl; rw [← a, ← b]; exact z.n e he
  g := fun n => by rw [nm3_cnt h n]; exact z.g n
theorem HoAt.same {D E : List Leg} {ho : List (Key × Str)} (h : D.map nm3 = E.map nm3) (z : HoAt E ho) : HoAt D ho := fun n m e => by
  obtain ⟨⟨l, hl, a1, a2⟩, o, hol, b1, b2⟩ := z n m e
  obtain ⟨l', hl', c1, c2, _⟩ := nm3_mem h.symm hl
  obtain ⟨o', ho', d1, d2, _⟩ := nm3_mem h.symm hol
  exact ⟨⟨l', hl', c1.trans a1, c2.trans a2⟩, o', ho', d1.trans b1, d2.trans b2⟩
theorem ChQ.same {fx : Fx} {lg D : List Leg} {zo : List Int} {rw1 rw2 : List Str} {ho : List (Key × Str)} {hr : List Hr} {cp : List (Key × Int)} {m : Int} {ns : List Str} (h : D.map nm3 = lg.map nm3) (z : ChQ (((fx, lg, zo, rw1, ho), hr), cp) m ns) : ChQ (((fx, D, zo, rw2, ho), hr), cp) m ns where
  l2 := z.l2
  l12 := z.l12
  nd := z.nd
  so := z.so
  ky := z.ky
  fx := z.fx
  li := z.li.same h
  ll := by
    have e := congrArg List.length h
    rw [List.length_map, List.length_map] at e
    show D.length ≤ 100
    rw [e]
    exact z.ll
  ho := z.ho.same h
theorem set_nm3 {D : List Leg} {k : Nat} {l l' : Leg} (h : D[k]? = some l) (e : nm3 l' = nm3 l) : (D.set k l').map nm3 = D.map nm3 := by
  rw [List.map_set]
  refine List.ext_getElem? fun i => ?_
  rw [List.getElem?_set]
  by_cases z : k = i
  · subst z
    have hl := (List.getElem?_eq_some_iff.mp h).1
    rw [if_pos rfl, if_pos (by rw [List.length_map]; exact hl), List.getElem?_map, h, e]
    rfl
  · rw [if_neg z]
theorem str_ok : ∀ i : Nat, i < 5 → ((("A" : Str) ++ Str.ofString (toString (i : Int))).length ≤ 100 ∧ PyData.strOk (("A" : Str) ++ Str.ofString (toString (i : Int))) = true) ∧ ("A" : Str).length + (Str.ofString (toString (i : Int))).length ≤ 100 := by decide +kernel
abbrev gRq (q : Rq) : Prop := PyData.strOk q.1 = true ∧ (True ∧ True ∧ True ∧ True ∧ True) ∧ PyData.strOk q.2.2.1 = true ∧ PyData.strOk q.2.2.2.1 = true ∧ True ∧ True ∧ True ∧ True
theorem gRq_of {q : Rq} (h : RqG q) : gRq q := ⟨h.s, ⟨trivial, trivial, trivial, trivial, trivial⟩, h.a, h.b, trivial, trivial, trivial, trivial⟩
instance unlDu {enc : List Rq → List PyData} : Unl (α := Str) (β := List Rq) PyData.str (fun x => PyData.list (enc x)) := ⟨fun _ _ => rfl, fun _ _ => rfl⟩
abbrev gDu : Str ⊕ List Rq → Prop := goodSum (fun s : Str => PyData.strOk s = true) (fun xs : List Rq => ∀ z ∈ xs, gRq z)
theorem sq_good {c : ChV} {ru : RuV} {ws : List M10.W4} {rs : List Rq} {sh : Int} (h : ∀ q ∈ rs, gRq q) (hp : SqOk c ru ws rs) : gDu (sqV c ru ws rs sh) := by
  unfold sqV
  split
  · exact (by decide +kernel : PyData.strOk "runway" = true)
  split
  · exact (by decide +kernel : PyData.strOk "entry" = true)
  split
  · exact (by decide +kernel : PyData.strOk "none" = true)
  · rename_i r hr
    show ∀ z ∈ pkV rs r.2.2.1, gRq z
    intro z hz
    obtain ⟨i, hi, e⟩ := List.mem_map.mp hz
    obtain ⟨_, hoi⟩ := fi_in (as_ok hp) hr
    have hir := hoi i hi
    have hasl : (asV c ru ws rs).length = rs.length := List.length_map _
    rw [hasl] at hir
    rw [← e]
    exact h _ (List.mem_of_getElem? (getD_at0 (by have := hir.1; have := hir.2; omega)))
section
variable {P : Program} {w : World} {K : PySem.W.Frag} {mg : Str → Option Value} {base : Heap}
abbrev sp_law (K : Fg) (T : List Addr) : Sp := sp0 K T (fOne (rSeq rInt)) (fun ns => ns.length ≤ 63) rBool fun _ y => y = true
abbrev N_law : List Str := ["_law_script", "_law_state", "_law_chart_here", "_law_k", "_law_lengths_here", "_law_rules_here", "_law_winds_here", "_law_requests", "_law_goal", "_law_request_here", "_law_shift", "_law_kept", "_law_due_here", "_law_j"]
theorem sc_law : FnScope N_law ["_law_script"] (defScope s_law) := ⟨rfl, rfl, rfl, by decide +kernel, rfl, by decide +kernel, by decide +kernel⟩
theorem ok_law (N : Nm K mg) (T : Bt mg) (hP : P.main = pM) (Y : Tb0 N base) : FnOk P w K mg base CX0 16 N.law.f N.law.fd ["_law_script"] (sp_law K (tsOf N)) := by
  refine fn_m N.law.F sc_law (tsOf N) fun cdv A outer s G H E x Q fam hp hk => ?_
  have hk' : ∀ {Γ : Gm} {O : List Own}, RT K ⟨tsOf N, _, G, H, []⟩ Γ O rBool true _ := fun {Γ O} => rt_drop (hk ⟨rfl, rfl⟩)
  clear hk
  have z1 : 100000 ≤ sizeLine := by decide
  have nf : ∀ {q : Prop}, false = true → q := fun {q} h => Bool.noConfusion h
  have hc3 : ∀ {c : Int}, c ∈ [(2 : Int), 9] → 0 ≤ c ∧ c ≤ 20000 := fun {c} h => by
    simp only [List.mem_cons, List.not_mem_nil, or_false] at h
    omega
  show DS _ K ⟨tsOf N, _, G, H, []⟩ [some ⟨(rSeq rInt), x⟩, none, none, none, none, none, none, none, none, none, none, none, none, none] [] (defBody s_law) _
  refine s_set 1 (d_call N.start (ok_start N T) (da_one (d_var 0 (sw_n hp (fun q _ _ => ?_)))))
  refine s_set 2 (d_call N.chart (ok_chart N T) (da_cons (d_var (ra := rAdr) (x := q) 1 (da_cons (d_bin (d_int (d_call N.draw (ok_draw N T) (da_cons (d_var (ra := rAdr) (x := q) 1 (da_one (d_int (sw_1 (q := q) ⟨(by walk_at "sc"), (by walk_at "sc")⟩ (fun n hn => (o_add (da_one (d_call N.pick (ok_pick (ra := rInt) N T) (da_cons (d_var (ra := rAdr) (x := q) 1 (da_one (d_lst (ra := rInt) (da_all (d_int (da_all (d_int (da_all0 ⟨(by walk_at "sc"), (sw_1 (q := q) ⟨by walk_at "sc", by walk_at "sc"⟩ (fun c hc => (sw_chart ⟨⟨by have z : 0 ≤ n ∧ n < 4 := hn; dsimp only; omega, by have z : 0 ≤ n ∧ n < 4 := hn; dsimp only; omega⟩, hc3 hc⟩ (fun qc ch ns ql qh hc0 hh0 hq hl hh => ?_))))⟩)))))))))))))))))))))))))
  clear hc
  dsimp only at hc0
  obtain ⟨⟨⟨fx, lg, zo, rw_, hol⟩, hr⟩, cp⟩ := ch
  have hh0 : hr = [] := hh0
  have hlg : lg.length ≤ 100 := hc0.ll
  simp only [chO]
  refine s_ifP (x := decide ((lg.length : Int) = 0)) (dt_cmp (d_callB T.len bt_len (da_one (d_recV 2 1 rfl chN_nd (c_lenG (rb := rLeg) (d_int (o_eqI ⟨rfl, rfl⟩))))))) (fun hb => s_ret (d_bl hk')) (fun hb => s_out ?_)
  have hpos : 0 < lg.length := by
    have := of_decide_eq_false hb
    omega
  clear hb
  refine s_for (js := [3]) (w_rng1 T.range (d_callB T.len bt_len (da_one (d_recV 2 1 rfl chN_nd (c_lenG (rb := rLeg) ⟨?_, ?_⟩)))))
  · show -2 ^ 62 ≤ ((lg.length : Nat) : Int) ∧ ((lg.length : Nat) : Int) < 2 ^ 62
    omega
  refine ⟨List Leg, fun i D => D.map nm3 = lg.map nm3, fun _ => [some ⟨(rSeq rInt), x⟩, some ⟨rAdr, q⟩, some ⟨rAdr, qc⟩, none, none, none, none, none, none, none, none, none, none, none], fun D => [⟨qc, oRec chN chFO, ((((fx, ql, zo, rw_, hol), qh), cp) : ChO)⟩, ⟨ql, oLst rLeg, D⟩, ⟨qh, oLst rHour, hr⟩, ⟨q, oSt, ()⟩], ⟨lg, rfl, ⟨rfl, rfl, rfl, trivial⟩, rfl⟩, fun gg i k0 D hx hD => (g_name 3 ?_), fun D hD => ?_⟩
  · have hD : D.map nm3 = lg.map nm3 := hD
    have hDl : D.length = lg.length := by
      have e := congrArg List.length hD
      rwa [List.length_map, List.length_map] at e
    obtain ⟨hlt, ex⟩ := rgI_item hx
    have hlt : i < ((lg.length : Nat) : Int).toNat := hlt
    have ex : k0 = (i : Int) := by omega
    subst ex
    have hiD : i < D.length := by omega
    obtain ⟨l, hl0⟩ : ∃ l, D[i]? = some l := ⟨_, List.getElem?_eq_getElem hiD⟩
    have gi : atI D (i : Int) = some l := atI_nat' hl0
    refine s_if (dt_cmp (d_call N.draw (ok_draw N T) (da_cons (d_var (ra := rAdr) (x := q) 1 (da_one (d_int (sw_1 (q := q) ⟨(by walk_at "sc"), (by walk_at "sc")⟩ (fun n2 hn2 => (d_int (o_gt ⟨fun hb => ?_, fun hb => ?_⟩))))))))))
    · have ec : cutL (sisV l) none (some 3) ++ [.inr 0, .inr 600] = sisV (l.1, l.2.1, l.2.2.1, 0, 600) := by
        rw [show cutL (sisV l) none (some 3) = (sisV l).take 3 from cut_to (sisV l) 3 (by show 3 ≤ 5; decide)]
        rfl
      have hA : cutL (sisV l) none (some 3) ≠ [] := by
        rw [show cutL (sisV l) none (some 3) = (sisV l).take 3 from cut_to (sisV l) 3 (by show 3 ≤ 5; decide)]
        exact List.cons_ne_nil _ _
      refine s_setI (rc := rLeg) (d_re (x := fun _ _ => True) (ra := rTpv rSI) (rc := rLeg) (d_bin (d_slice (d_re (x := fun _ _ => True) (ra := rLeg) (rc := rTpv rSI) (d_ix (d_recV 2 1 rfl chN_nd (d_var (ra := rInt) (x := (i : Int)) 3 (i_ls (rb := rLeg) gi ⟨sisV l, si_of, do_no (do_at (d_int (sl_t (nw_to (k := 3) (by show 3 < 5; decide)) (d_tpv (ra := rSI) (da_all (d_inr (d_int (da_all (d_inr (d_int (da_all0 ⟨?_, o_catT hA (List.cons_ne_nil _ _) ?_ ⟨((l.1, l.2.1, l.2.2.1, 0, 600) : Leg), fun h => si_to (by rw [← ec]; exact h), d_recV 2 1 rfl chN_nd (d_var (ra := rInt) (x := (i : Int)) 3 ⟨D, _, inferInstance, ⟨by omega, by omega⟩, ?_⟩)⟩⟩)))))))))))⟩))))))))
      · show 2 ≤ sizeLine
        omega
      · rw [show cutL (sisV l) none (some 3) = (sisV l).take 3 from cut_to (sisV l) 3 (by show 3 ≤ 5; decide)]
        show 3 + 2 ≤ sizeLine
        omega
      · rw [Int.toNat_natCast]
        refine s_out (s_next (D.set i (l.1, l.2.1, l.2.2.1, 0, 600)) ?_ ⟨rfl, rfl, rfl, trivial⟩ rfl)
        show (D.set i _).map nm3 = _
        rw [set_nm3 (l' := (l.1, l.2.1, l.2.2.1, 0, 600)) hl0 rfl, hD]
    · exact s_out (s_next D hD ⟨rfl, rfl, rfl, trivial⟩ rfl)
  have hD : D.map nm3 = lg.map nm3 := hD
  have hDl : D.length = lg.length := by
    have e := congrArg List.length hD
    rwa [List.length_map, List.length_map] at e
  have hl12 := hc0.l12
  have hl2 := hc0.l2
  dsimp only
  refine s_recPutV 2 3 rfl chN_nd (d_slice (d_callB T.sorted bt_sorted (da_one (d_recV 2 0 rfl chN_nd (c_sortedD (rb := rPt) (ks := ns) hc0.ky (by omega) (fun ys hys _ => do_no (do_at (d_bin (d_int (d_call N.draw (ok_draw N T) (da_cons (d_var (ra := rAdr) (x := q) 1 (da_one (d_int (sw_1 (q := q) ⟨(by walk_at "sc"), (by walk_at "sc")⟩ (fun n3 hn3 => (o_add (sl_l ⟨rfl, ?_⟩))))))))))))))))))
  generalize cutL ys none (some (2 + n3)) = rw2
  have hc1 := hc0.same (rw2 := rw2) hD
  clear hys
  generalize ech : ((((fx, D, zo, rw2, hol), hr), cp) : ChV) = ch2 at hc1
  show DS _ K ⟨tsOf N, _, G, H, []⟩ [some ⟨(rSeq rInt), x⟩, some ⟨rAdr, q⟩, some ⟨rAdr, qc⟩, none, none, none, none, none, none, none, none, none, none, none] (⟨qc, oRec chN chFO, ((((fx, ql, zo, rw2, hol), qh), cp) : ChO)⟩ :: ⟨ql, oLst rLeg, D⟩ :: ⟨qh, oLst rHour, hr⟩ :: [⟨q, oSt, ()⟩]) _ _
  have e1 : ((((fx, ql, zo, rw2, hol), qh), cp) : ChO) = chO ch2 ql qh := by rw [← ech]
  have e2 : D = lgOf ch2 := by rw [← ech]
  have e3 : hr = hrOf ch2 := by rw [← ech]
  have hpos2 : 0 < (lgOf ch2).length := by rw [← e2]; omega
  have hll2 : (lgOf ch2).length ≤ 100 := by rw [← e2]; omega
  have hhr2 : hrOf ch2 = [] := by rw [← e3]; exact hh0
  rw [e1, e2, e3]
  refine s_chDone 2 hq hl hh ?_
  clear e1 e2 e3 ech hD hDl hc0
  have hch := hc1.ok
  refine s_set 4 (d_call N.lengths (ok_lengths N T) (da_one (d_var (ra := rChart) (x := ch2) 2 (sw_0 hch (fun L hL => ?_)))))
  have hL : LenOk ch2 L := hL
  refine s_set 5 (d_call N.rules (ok_rules N T) (da_one (d_var (ra := rAdr) (x := q) 1 (sw_1NF (q := q) trivial (fun qr ru0 hru hqr => ?_)))))
  have hru : RuOk ru0 := hru
  have hg0 : GapOk (gapsOf ru0) := ⟨hru.gl, fun r hr => (hru.gs r hr).1⟩
  refine s_ifJE (fun ru : RuV => 0 ≤ slipOf ru ∧ GapOk (gapsOf ru)) (fun _ => [some ⟨(rSeq rInt), x⟩, some ⟨rAdr, q⟩, some ⟨rChart, ch2⟩, none, some ⟨rDt rInt, L⟩, some ⟨rAdr, qr⟩, none, none, none, none, none, none, none, none]) (fun ru => [⟨qr, oRec ruN ruF, ru⟩, ⟨q, oSt, ()⟩]) (dt_cmp (d_call N.draw (ok_draw N T) (da_cons (d_var (ra := rAdr) (x := q) 1 (da_one (d_int (sw_1 (q := q) ⟨(by walk_at "sc"), (by walk_at "sc")⟩ (fun n4 hn4 => (d_int (o_eqI ⟨fun hb => ?_, fun hb => s_join ru0 ⟨hru.sli.1, hg0⟩ ⟨rfl, rfl, rfl, rfl, rfl, trivial⟩ rfl⟩)))))))))) (fun ru hru2 => ?_)
  · refine s_recPutV 5 11 rfl ruN_nd (d_callT T.tuple bt_tuple (da_one (d_frzE (ra := rTpv rInt) (d_lcO (js := [13]) (ra := rInt) (rb := rTpv rInt) [("_law_j", 13)] [13] (fun _ => blkOk_by (N := N_law) (sc := defScope s_law) (by decide +kernel)) (w_rng1 T.range (d_int ⟨(by decide), ⟨Unit, fun i ys _ => ys.length = i ∧ ∀ r ∈ ys, r.length = 4, fun _ => [⟨qr, oRec ruN ruF, ru0⟩, ⟨q, oSt, ()⟩], ⟨(), ⟨rfl, fun g hg => absurd hg List.not_mem_nil⟩, rfl⟩, fun g D i x ys d hx hd => (g_name 13 (dts_nil ⟨fun _ => (d_callT T.tuple bt_tuple (da_one (d_frzE (d_lcO (js := [3]) (ra := rInt) (rb := rInt) [("_law_k", 3)] [3] (fun _ => blkOk_in (blkOk_by (N := N_law) (by decide +kernel))) (w_rng1 T.range (d_int ⟨(by decide), ⟨Unit, fun i2 ys2 _ => ys2.length = i2, fun _ => _, ⟨(), rfl, rfl⟩, fun g2 D2 i2 x2 ys2 d2 hx2 hd2 => (g_name 3 (dts_nil ⟨fun _ => (d_bin (d_int (d_call N.draw (ok_draw N T) (da_cons (d_var (ra := rAdr) (x := q) 1 (da_one (d_int (sw_1 (q := q) ⟨(by walk_at "sc"), (by walk_at "sc")⟩ (fun n9 hn9 => (o_add ⟨(), rfl, ?_, ?_⟩)))))))))), fun h => Bool.noConfusion h⟩)), fun D2 ys2 d2 hM2 hd2 => ⟨_, _, rfl, hM2, (c_tuple ⟨(), rfl, ?_, ?_⟩)⟩⟩⟩)))))), fun h => Bool.noConfusion h⟩)), fun D ys d hM hd => ⟨_, _, rfl, hM, (c_tuple ⟨rfl, ?_⟩)⟩⟩⟩))))))
    · have hd2 : ys2.length = i2 := hd2
      have : i2 < 4 := (rgI_item hx2).1
      omega
    · show (ys2 ++ [1 + n9]).length = i2 + 1
      rw [List.length_append, show ys2.length = i2 from hd2]
      rfl
    · have : i < 4 := (rgI_item hx).1
      have := hd.1
      omega
    · obtain ⟨e1, e2⟩ := hd
      refine ⟨by rw [List.length_append, e1]; rfl, fun r hr => ?_⟩
      rcases List.mem_append.mp hr with z | z
      · exact e2 r z
      · rw [List.mem_singleton.mp z]
        exact hd2
    · have hg : GapOk ys := ⟨hd.1, hd.2⟩
      exact s_join (ru0.1, ys) ⟨hru.sli.1, hg⟩ ⟨rfl, rfl, rfl, rfl, rfl, trivial⟩ rfl
  obtain ⟨hs0, hgp⟩ := hru2
  refine s_done 5 hqr ?_
  refine s_set 6 (d_call N.winds (ok_winds N T) (da_one (d_var (ra := rAdr) (x := q) 1 (sw_1 (q := q) trivial (fun ws hws => ?_)))))
  have hws : WdOk ws := hws
  refine s_set 7 (d_lstO (ra := rRq) (da_all0 ⟨(by walk_at "sc"), fun p hpM => ?_⟩))
  refine s_set 8 (d_ix (d_call N.pick (ok_pick (ra := rLeg) N T) (da_cons (d_var (ra := rAdr) (x := q) 1 (da_one (d_recP 2 1 rfl chN_nd (sw_1 (q := q) ⟨hpos2, Nat.le_trans hll2 (by omega)⟩ (fun l hl => d_int (i_tup 1 ?_)))))))))
  have hl : l ∈ lgOf ch2 := hl
  have hgo := (hch.pts l hl).2
  have hgs := (hch.so l hl).2.1
  generalize l.2.1 = go at hgo hgs ⊢
  clear hl
  refine s_for (js := [3]) (w_rng1 T.range (d_call N.draw (ok_draw N T) (da_cons (d_var (ra := rAdr) (x := q) 1 (da_one (d_int (sw_1 (q := q) ⟨(by walk_at "sc"), (by walk_at "sc")⟩ (fun n5 hn5 => ⟨by have z : 0 ≤ n5 ∧ n5 < 5 := hn5; omega, ?_⟩))))))))
  have hn5 : 0 ≤ n5 ∧ n5 < 5 := hn5
  refine ⟨List Rq, fun i D => D.length = i ∧ ∀ r ∈ D, RqX ch2 r, fun _ => [some ⟨(rSeq rInt), x⟩, some ⟨rAdr, q⟩, some ⟨rChart, ch2⟩, none, some ⟨rDt rInt, L⟩, some ⟨rRules, ru⟩, some ⟨rLst rWnd, ws⟩, some ⟨rAdr, p⟩, some ⟨rStr, go⟩, none, none, none, none, none], fun D => [⟨p, oLst rRq, D⟩, ⟨q, oSt, ()⟩], ⟨[], ⟨rfl, fun r h => absurd h List.not_mem_nil⟩, ⟨rfl, rfl, rfl, rfl, rfl, rfl, rfl, rfl, trivial⟩, rfl⟩, fun gg i k0 D hx hD => (g_name 3 ?_), fun rs hD => ?_⟩
  · obtain ⟨hlt, ex⟩ := rgI_item hx
    have ex : k0 = (i : Int) := by omega
    subst ex
    have hi5 : i < 5 := by omega
    obtain ⟨hD1, hD2⟩ := hD
    obtain ⟨⟨h1, h2⟩, h3⟩ := str_ok i hi5
    refine s_set 9 (d_call N.request (ok_request N T) (da_cons (d_var (ra := rAdr) (x := q) 1 (da_cons (d_var (ra := rChart) (x := ch2) 2 (da_one (d_bin (d_str (d_callT T.str bt_str (da_one (d_var (ra := rInt) (x := (i : Int)) 3 (c_strI ?_ (o_addS (Nat.le_trans h3 (by omega)) (sw_1 (q := q) ⟨⟨_, _, hc1⟩, h1, h2⟩ (fun r hr => ?_)))))))))))))))
    · have h5 : i.log2 ≤ 4 := by
        rcases (by omega : i = 0 ∨ i = 1 ∨ i = 2 ∨ i = 3 ∨ i = 4) with e | e | e | e | e
        all_goals (subst e; decide)
      show i.log2 < 1920
      omega
    have hr : RqX ch2 r := hr
    refine s_ifJE (fun q2 : Rq => RqX ch2 q2) (fun q2 => [some ⟨(rSeq rInt), x⟩, some ⟨rAdr, q⟩, some ⟨rChart, ch2⟩, some ⟨rInt, (i : Int)⟩, some ⟨rDt rInt, L⟩, some ⟨rRules, ru⟩, some ⟨rLst rWnd, ws⟩, some ⟨rAdr, p⟩, some ⟨rStr, go⟩, some ⟨rRq, q2⟩, none, none, none, none]) (fun _ => [⟨p, oLst rRq, D⟩, ⟨q, oSt, ()⟩]) (dt_bool (dp_and (dt_cmp (d_ix (d_var (ra := rRq) (x := r) 9 (d_int (i_tup 2 (d_var (ra := rStr) (x := go) 8 (o_neS ⟨fun hb => (dp_and1 (dt_cmp (d_call N.draw (ok_draw N T) (da_cons (d_var (ra := rAdr) (x := q) 1 (da_one (d_int (sw_1 (q := q) ⟨(by walk_at "sc"), (by walk_at "sc")⟩ (fun n6 hn6 => (d_int (o_gt ⟨fun hb2 => ?_, fun hb2 => ?_⟩))))))))))), fun hb => ⟨fun e => Bool.noConfusion e, fun _ => ?_⟩⟩))))))))) (fun q2 hq2 => ?_)
    · have hne : r.2.2.1 ≠ go := by
        rw [Bool.not_eq_true', decide_eq_false_iff_not] at hb
        exact hb
      have c1 : cutL (elsV r) none (some 3) = (elsV r).take 3 := cut_to (elsV r) 3 (by show 3 ≤ 8; decide)
      have c2 : cutL (elsV r) (some 4) none = (elsV r).drop 4 := cut_from (elsV r) 4 (by show 4 ≤ 8; decide)
      have ec : cutL (elsV r) none (some 3) ++ [.inl go] ++ cutL (elsV r) (some 4) none = elsV (r.1, r.2.1, r.2.2.1, go, r.2.2.2.2) := by
        rw [c1, c2]
        rfl
      refine s_set 9 (ra := rRq) (d_re (x := fun _ _ => True) (ra := rTpv rEl) (rc := rRq) (d_bin (d_bin (d_slice (d_re (x := fun _ _ => True) (ra := rRq) (rc := rTpv rEl) (d_var (ra := rRq) (x := r) 9 ⟨elsV r, els_of, do_no (do_at (d_int (sl_t (nw_to (k := 3) (by show 3 < 8; decide)) (d_tpv (ra := rEl) (da_all (d_inl (d_var (ra := rStr) (x := go) 8 (da_all0 ⟨?_, o_catT (by rw [c1]; exact List.cons_ne_nil _ _) (List.cons_ne_nil _ _) ?_ (d_slice (d_re (x := fun _ _ => True) (ra := rRq) (rc := rTpv rEl) (d_var (ra := rRq) (x := r) 9 ⟨elsV r, els_of, do_at (d_int (do_no (sl_t (nw_from (k := 4) (by decide) (by show 4 ≤ 8; decide)) (o_catT (by rw [c1]; exact List.cons_ne_nil _ _) (by rw [c2]; exact List.cons_ne_nil _ _) ?_ ⟨(r.1, r.2.1, r.2.2.1, go, r.2.2.2.2), fun h => els_to (by rw [← ec]; exact h), ?_⟩))))⟩)))⟩))))))))⟩))))))
      · show 1 ≤ sizeLine
        omega
      · rw [c1]
        show 3 + 1 ≤ sizeLine
        omega
      · rw [c1, c2]
        show 4 + 4 ≤ sizeLine
        omega
      · exact s_join (r.1, r.2.1, r.2.2.1, go, r.2.2.2.2) ⟨⟨hr.g.n, hr.g.s, hr.g.a, hgs⟩, hr.k, hr.s, hgo, hne, hr.t, hr.l⟩ ⟨rfl, rfl, rfl, rfl, rfl, rfl, rfl, rfl, rfl, rfl, trivial⟩ rfl
    · exact s_join r hr ⟨rfl, rfl, rfl, rfl, rfl, rfl, rfl, rfl, rfl, rfl, trivial⟩ rfl
    · exact s_join r hr ⟨rfl, rfl, rfl, rfl, rfl, rfl, rfl, rfl, rfl, rfl, trivial⟩ rfl
    refine s_expr (d_app (ra := rRq) (d_var (ra := rAdr) (x := p) 7 ⟨_, _, inferInstance, d_var (ra := rRq) (x := q2) 9 ⟨_, _, inferInstance, ?_, ?_⟩⟩))
    · show D.length < sizeLine
      omega
    · refine s_next (D ++ [q2]) ⟨?_, fun z hz => ?_⟩ ⟨rfl, rfl, rfl, rfl, rfl, rfl, rfl, rfl, trivial⟩ rfl
      · rw [List.length_append, hD1]; rfl
      · rcases List.mem_append.mp hz with y | y
        · exact hD2 z y
        · rw [List.mem_singleton.mp y]; exact hq2
  obtain ⟨hD1, hD2⟩ := hD
  rw [rgI_len] at hD1
  have hsqo : SqOk ch2 ru ws rs := ⟨⟨hch, hhr2, hs0, hws⟩, hgp, by omega, fun r hr => ⟨⟨⟨_, _, hc1⟩, (hD2 r hr).s, (hD2 r hr).n⟩, (hD2 r hr).k, ⟨(hD2 r hr).t.1, by have := (hD2 r hr).t.2; omega⟩, ⟨(hD2 r hr).l.1, by have := (hD2 r hr).l.2; omega⟩⟩⟩
  have hgr : ∀ r ∈ rs, gRq r := fun r hr => gRq_of (hD2 r hr).g
  refine s_frz 7 hpM ?_
  refine s_set 10 (d_call N.draw (ok_draw N T) (da_cons (d_var (ra := rAdr) (x := q) 1 (da_one (d_int (sw_1 (q := q) ⟨(by walk_at "sc"), (by walk_at "sc")⟩ (fun sh hsh => ?_)))))))
  refine s_set 11 (d_callT T.list bt_list (da_one (d_var (ra := rLst rRq) (x := rs) 7 (c_list ?_))))
  have hgd := sq_good (sh := sh) hgr hsqo
  refine s_set 12 (d_call N.due (ok_due N T Y hP) (da_cons (d_var (ra := rChart) (x := ch2) 2 (da_cons (d_var (ra := rDt rInt) (x := L) 4 (da_cons (d_var (ra := rRules) (x := ru) 5 (da_cons (d_var (ra := rLst rWnd) (x := ws) 6 (da_cons (d_var (ra := rLst rRq) (x := rs) 7 (da_one (d_var (ra := rInt) (x := sh) 10 (sw_f ⟨hsqo, hL⟩ ?_))))))))))))))
  dsimp only
  refine s_ret (d_then (x := true) (d_andP (x := true) (y := true) (d_cmp (d_call N.found (ok_found N T Y hP) (da_cons (d_var (ra := rChart) (x := ch2) 2 (da_cons (d_var (ra := rRules) (x := ru) 5 (da_cons (d_var (ra := rLst rWnd) (x := ws) 6 (da_cons (d_var (ra := rLst rRq) (x := rs) 7 (da_one (d_var (ra := rInt) (x := sh) 10 (sw_f hsqo (d_var (ra := rDu) (x := sqV ch2 ru ws rs sh) 12 (o_eqD hgd hgd ⟨decide_eq_true rfl, rfl⟩))))))))))))))) (fun _ => d_one (d_cmp (d_var (ra := rLst rRq) (x := rs) 7 (d_var (ra := rLst rRq) (x := rs) 11 (o_eqD hgr hgr ⟨decide_eq_true rfl, rfl⟩)))))) hk')
end
end Law
set_option Elab.async false
set_option linter.all false
set_option maxRecDepth 100000
set_option maxHeartbeats 4100000
namespace Law
open PySem L2 Evl Sk
def asL : List Addr := [3,6,4,49,59,81,102,123,132,139,146,151,158,165,172,179,186,193,200,207,212,219,226,233,240,247,254,259,264,293,304,396,407,412,419,420,421,428,435,442,449,454,459,466,473,480,487,494,501,506,511,516,523,528,533,540,547,554,561,568,573,580,585,592,599,606,613,618,623,630,635,640,645,652,657,662,669,674,0,48,58,80,101,122,131,138,145,150,157,164,171,178,185,192,199,206,211,218,225,232,239,246,253,258,263,292,303,395,406,411,418,427,434,441,448,453,458,465,472,479,486,493,500,505,510,515,522,527,532,539,546,553,560,567,572,579,584,591,598,605,612,617,622,629,634,639,644,651,656,661,668,673,43,45,46,47,57,60,78,79,99,100,120,121,126,128,129,130,133,135,136,137,140,142,143,144,147,149,152,154,155,156,159,161,162,163,166,168,169,170,173,175,176,177,180,182,183,184,187,189,190,191,194,196,197,198,201,203,204,205,208,210,213,215,216,217,220,222,223,224,227,229,230,231,234,236,237,238,241,243,244,245,248,250,251,252,255,257,260,262,278,283,290,291,294,295,298,300,301,302,316,323,330,337,344,351,358,365,372,379,386,393,394,397,398,401,403,404,405,408,410,413,415,416,417,422,424,425,426,429,431,432,433,436,438,439,440,443,445,446,447,450,452,455,457,460,462,463,464,467,469,470,471,474,476,477,478,481,483,484,485,488,490,491,492,495,497,498,499,502,504,507,509,512,514,517,519,520,521,524,526,529,531,534,536,537,538,541,543,544,545,548,550,551,552,555,557,558,559,562,564,565,566,569,571,574,576,577,578,581,583,586,588,589,590,593,595,596,597,600,602,603,604,607,609,610,611,614,616,619,621,624,626,627,628,631,633,636,638,641,643,646,648,649,650,653,655,658,660,663,665,666,667,670,672,77,66,98,87,119,108,277,282,289,315,322,329,336,343,350,357,364,371,378,385,392,72,74,75,76,93,95,96,97,114,116,117,118,272,274,275,276,279,281,284,286,287,288,312,314,317,319,320,321,324,326,327,328,331,333,334,335,338,340,341,342,345,347,348,349,352,354,355,356,359,361,362,363,366,368,369,370,373,375,376,377,380,382,383,384,387,389,390,391]
def fnL : List He.DefD := [dD "_wall" s__wall, dD "root_up" s_root_up, dD "leg_between" s_leg_between, dD "leg_length" s_leg_length, dD "open_legs" s_open_legs, dD "is_shut" s_is_shut, dD "wind_at" s_wind_at, dD "step_bounds" s_step_bounds, dD "into_range" s_into_range, dD "target" s_target, dD "towards" s_towards, dD "next_levels" s_next_levels, dD "bounds_on" s_bounds_on, dD "next_box" s_next_box, dD "legs_below" s_legs_below, dD "check_levels" s_check_levels, dD "check_hours" s_check_hours, dD "check_headway" s_check_headway, dD "tube" s_tube, dD "window" s_window, dD "landing_tick" s_landing_tick, dD "natural_positions" s_natural_positions, dD "best_order" s_best_order, dD "route_length" s_route_length, dD "alternatives" s_alternatives, dD "with_loops" s_with_loops, dD "possible_routes" s_possible_routes, dD "different" s_different, dD "menu" s_menu, dD "first_entry" s_first_entry, dD "sequenced" s_sequenced, dD "_law_start" s_start, dD "_law_draw" s_draw, dD "_law_pick" s_pick, dD "_law_root_up" s_law_root_up, dD "_law_names" s_names, dD "_law_legs" s_legs, dD "_law_chart" s_chart, dD "_law_leg" s_leg, dD "_law_lengths" s_lengths, dD "_law_begins" s_begins, dD "_law_leg_at" s_leg_at, dD "_law_kind" s_kind, dD "_law_rules" s_rules, dD "_law_winds" s_winds, dD "_law_wind_at" s_law_wind_at, dD "_law_bounds" s_bounds, dD "_law_target" s_law_target, dD "_law_towards" s_law_towards, dD "_law_next" s_law_next, dD "_law_code" s_code, dD "_law_tube" s_law_tube, dD "_law_request" s_request, dD "_law_ready" s_ready, dD "_law_orders" s_orders, dD "_law_ticks" s_ticks, dD "_law_best" s_best, dD "_law_due" s_due, dD "_law_found" s_found, dD "law" s_law, ⟨("Search", some "__init__"), "__init__", "Search.__init__", defArgs s_Search_init, defBody s_Search_init, defScope s_Search_init, [], []⟩, ⟨("Search", some "grow"), "grow", "Search.grow", defArgs s_Search_grow, defBody s_Search_grow, defScope s_Search_grow, [], []⟩, ⟨("Search", some "is_worse"), "is_worse", "Search.is_worse", defArgs s_Search_is_worse, defBody s_Search_is_worse, defScope s_Search_is_worse, [], []⟩, ⟨("Path", some "__init__"), "__init__", "Path.__init__", defArgs s_Path_init, defBody s_Path_init, defScope s_Path_init, [], []⟩, ⟨("Path", some "route"), "route", "Path.route", defArgs s_Path_route, defBody s_Path_route, defScope s_Path_route, [], []⟩, ⟨("Path", some "total"), "total", "Path.total", defArgs s_Path_total, defBody s_Path_total, defScope s_Path_total, [], []⟩, ⟨("Path", some "begin"), "begin", "Path.begin", defArgs s_Path_begin, defBody s_Path_begin, defScope s_Path_begin, [], []⟩, ⟨("Path", some "legs"), "legs", "Path.legs", defArgs s_Path_legs, defBody s_Path_legs, defScope s_Path_legs, [], []⟩, ⟨("Path", some "leg"), "leg", "Path.leg", defArgs s_Path_leg, defBody s_Path_leg, defScope s_Path_leg, [], []⟩, ⟨("Path", some "leg_at"), "leg_at", "Path.leg_at", defArgs s_Path_leg_at, defBody s_Path_leg_at, defScope s_Path_leg_at, [], []⟩, ⟨("Path", some "start"), "start", "Path.start", defArgs s_Path_start, defBody s_Path_start, defScope s_Path_start, [], []⟩, ⟨("Path", some "vector"), "vector", "Path.vector", defArgs s_Path_vector, defBody s_Path_vector, defScope s_Path_vector, [], []⟩, ⟨("Path", some "_on_leg"), "_on_leg", "Path._on_leg", defArgs s_Path_on_leg, defBody s_Path_on_leg, defScope s_Path_on_leg, [], []⟩, ⟨("Path", some "place"), "place", "Path.place", defArgs s_Path_place, defBody s_Path_place, defScope s_Path_place, [], []⟩, ⟨("Path", some "piece"), "piece", "Path.piece", defArgs s_Path_piece, defBody s_Path_piece, defScope s_Path_piece, [], []⟩]
def faL : List He.Fa := [.glo "_wall", .glo "root_up", .glo "leg_between", .glo "leg_length", .glo "open_legs", .glo "is_shut", .glo "wind_at", .glo "step_bounds", .glo "into_range", .glo "target", .glo "towards", .glo "next_levels", .glo "bounds_on", .glo "next_box", .glo "legs_below", .glo "check_levels", .glo "check_hours", .glo "check_headway", .glo "tube", .glo "window", .glo "landing_tick", .glo "natural_positions", .glo "best_order", .glo "route_length", .glo "alternatives", .glo "with_loops", .glo "possible_routes", .glo "different", .glo "menu", .glo "first_entry", .glo "sequenced", .glo "_law_start", .glo "_law_draw", .glo "_law_pick", .glo "_law_root_up", .glo "_law_names", .glo "_law_legs", .glo "_law_chart", .glo "_law_leg", .glo "_law_lengths", .glo "_law_begins", .glo "_law_leg_at", .glo "_law_kind", .glo "_law_rules", .glo "_law_winds", .glo "_law_wind_at", .glo "_law_bounds", .glo "_law_target", .glo "_law_towards", .glo "_law_next", .glo "_law_code", .glo "_law_tube", .glo "_law_request", .glo "_law_ready", .glo "_law_orders", .glo "_law_ticks", .glo "_law_best", .glo "_law_due", .glo "_law_found", .glo "law", .glo "Search", .cls "Search", .noat "Search" "gaps", .noat "Search" "arrivals", .noat "Search" "shift", .noat "Search" "positions", .noat "Search" "best", .mkr "Search", .meth "Search" "grow", .meth "Search" "is_worse", .glo "Path", .cls "Path", .noat "Path" "_route", .noat "Path" "_legs", .noat "Path" "_points", .noat "Path" "_begins", .mkr "Path", .meth "Path" "route", .meth "Path" "total", .meth "Path" "begin", .meth "Path" "legs", .meth "Path" "leg", .meth "Path" "leg_at", .meth "Path" "start", .meth "Path" "vector", .meth "Path" "_on_leg", .meth "Path" "place", .meth "Path" "piece", .free "ValueError", .free "min", .free "max", .free "range", .free "list", .free "enumerate", .free "sorted", .free "sum", .free "len", .free "tuple", .free "zip", .free "int", .free "isinstance", .free "bool", .free "any", .free "abs", .free "super", .free "str", .int "LONGEST_TUBE" 240, .int "MOST_NAMES" 16, .int "MOST_SIMPLE" 8, .int "ROUTES" 2, .int "PATIENCE" 100]
def exA (K : PySem.W.Frag) : Bool := decide (PySem.W.nsIn K mainGlobals "isqrt" = some (some (.builtin "math.isqrt")))
def xcL : List XcD := [⟨"RouteError", "RouteError.__init__", s_RouteError_init, ["code", "index"]⟩, ⟨"CourseError", "CourseError.__init__", s_CourseError_init, ["code", "tick"]⟩, ⟨"SequenceError", "SequenceError.__init__", s_SequenceError_init, ["code"]⟩]
def exB (K : PySem.W.Frag) : Bool := exA K && (kcB K "DELAYS" cd_DELAYS && (kcB K "LOOPS" cd_LOOPS && ((xcL.all fun x => x.ok K pM.file))))
theorem bi_25 {K : PySem.W.Frag} {h : Heap} {mg : Str → Option Value} (X : K.In h) (G : h.Ns mainGlobals mg) (c : exA K = true) : mg "isqrt" = some (.builtin "math.isqrt") := PySem.W.mg_of X G (of_decide_eq_true c)
theorem facts {l : PySem.W.OpenLaw} {w : World} {K : PySem.W.Frag} {h : Heap} {mg : Str → Option Value} {f : Addr} (hP : l.prog.main = pM) (X : K.In h) (G : h.Ns mainGlobals mg) (hfa : mg "law" = some (.ref f)) (c : He.SaysX faL fnL [] [("route_length", none)] exB w h K) (ce : xcL.map (fnB K) = xcL.map XcD.val) :
    ∃ (K : Fg) (fd : FuncData) (cs : List (Addr × Addr)), K.In h ∧ (∀ p ∈ cs, h.get? p.2 = some { cls := .none, data := .fields #[] }) ∧ (∀ p ∈ cs, K.lookup p.2 = none) ∧ (∀ p ∈ cs, PySem.W.codeHdIn K p.1 p.2 = true) ∧ (∀ (s : Shared) (u : Value), BindsTo s fd ⟨[u], []⟩ [("_law_script", u)]) ∧
      ∀ base : Heap, K.In base → base.Ns mainGlobals mg → (∀ p ∈ cs, GxR.TabB base mg p.1 p.2) → FnOk l.prog w K mg base CX0 16 f fd ["_law_script"] (sp0 K (cs.map (·.2)) (fOne (rSeq rInt)) (fun ns => ns.length ≤ 63) rBool fun _ y => y = true) := by
  obtain ⟨D0, e0, d0⟩ := df_of c.t.d X G 0 0 (n := "_wall") (st := s__wall) (ps := ["k"]) rfl rfl (fun _ _ F => F.binds fun _ _ _ _ _ _ us hl => match us, hl with | [_], _ => rfl)
  obtain ⟨D1, e1, d1⟩ := df_of c.t.d X G 1 1 (n := "root_up") (st := s_root_up) (ps := ["n"]) rfl rfl (fun _ _ F => F.binds fun _ _ _ _ _ _ us hl => match us, hl with | [_], _ => rfl)
  obtain ⟨D2, e2, d2⟩ := df_of c.t.d X G 2 2 (n := "leg_between") (st := s_leg_between) (ps := ["chart", "start", "end"]) rfl rfl (fun _ _ F => F.binds fun _ _ _ _ _ _ us hl => match us, hl with | [_, _, _], _ => rfl)
  obtain ⟨D3, e3, d3⟩ := df_of c.t.d X G 3 3 (n := "leg_length") (st := s_leg_length) (ps := ["chart", "start", "end"]) rfl rfl (fun _ _ F => F.binds fun _ _ _ _ _ _ us hl => match us, hl with | [_, _, _], _ => rfl)
  obtain ⟨D4, e4, d4⟩ := df_of c.t.d X G 4 4 (n := "open_legs") (st := s_open_legs) (ps := ["chart", "start", "level"]) rfl rfl (fun _ _ F => F.binds fun _ _ _ _ _ _ us hl => match us, hl with | [_, _, _], _ => rfl)
  obtain ⟨D5, e5, d5⟩ := df_of c.t.d X G 5 5 (n := "is_shut") (st := s_is_shut) (ps := ["chart", "leg", "tick"]) rfl rfl (fun _ _ F => F.binds fun _ _ _ _ _ _ us hl => match us, hl with | [_, _, _], _ => rfl)
  obtain ⟨D6, e6, d6⟩ := df_of c.t.d X G 6 6 (n := "wind_at") (st := s_wind_at) (ps := ["winds", "tick"]) rfl rfl (fun _ _ F => F.binds fun _ _ _ _ _ _ us hl => match us, hl with | [_, _], _ => rfl)
  obtain ⟨D7, e7, d7⟩ := df_of c.t.d X G 7 7 (n := "step_bounds") (st := s_step_bounds) (ps := ["vector", "speed", "slip", "wind"]) rfl rfl (fun _ _ F => F.binds fun _ _ _ _ _ _ us hl => match us, hl with | [_, _, _, _], _ => rfl)
  obtain ⟨D8, e8, d8⟩ := df_of c.t.d X G 8 8 (n := "into_range") (st := s_into_range) (ps := ["level", "leg"]) rfl rfl (fun _ _ F => F.binds fun _ _ _ _ _ _ us hl => match us, hl with | [_, _], _ => rfl)
  obtain ⟨D9, e9, d9⟩ := df_of c.t.d X G 9 9 (n := "target") (st := s_target) (ps := ["path", "course", "index"]) rfl rfl (fun _ _ F => F.binds fun _ _ _ _ _ _ us hl => match us, hl with | [_, _, _], _ => rfl)
  obtain ⟨D10, e10, d10⟩ := df_of c.t.d X G 10 10 (n := "towards") (st := s_towards) (ps := ["level", "goal", "rate"]) rfl rfl (fun _ _ F => F.binds fun _ _ _ _ _ _ us hl => match us, hl with | [_, _, _], _ => rfl)
  obtain ⟨D11, e11, d11⟩ := df_of c.t.d X G 11 11 (n := "next_levels") (st := s_next_levels) (ps := ["kind", "goal", "down", "up"]) rfl rfl (fun _ _ F => F.binds fun _ _ _ _ _ _ us hl => match us, hl with | [_, _, _, _], _ => rfl)
  obtain ⟨D12, e12, d12⟩ := df_of c.t.d X G 12 12 (n := "bounds_on") (st := s_bounds_on) (ps := ["path", "index", "course", "rules", "wind"]) rfl rfl (fun _ _ F => F.binds fun _ _ _ _ _ _ us hl => match us, hl with | [_, _, _, _, _], _ => rfl)
  obtain ⟨D13, e13, d13⟩ := df_of c.t.d X G 13 13 (n := "next_box") (st := s_next_box) (ps := ["path", "course", "kind", "rules", "winds", "tick", "box"]) rfl rfl (fun _ _ F => F.binds fun _ _ _ _ _ _ us hl => match us, hl with | [_, _, _, _, _, _, _], _ => rfl)
  obtain ⟨D14, e14, d14⟩ := df_of c.t.d X G 14 14 (n := "legs_below") (st := s_legs_below) (ps := ["path", "box"]) rfl rfl (fun _ _ F => F.binds fun _ _ _ _ _ _ us hl => match us, hl with | [_, _], _ => rfl)
  obtain ⟨D15, e15, d15⟩ := df_of c.t.d X G 15 15 (n := "check_levels") (st := s_check_levels) (ps := ["path", "tick", "box"]) rfl rfl (fun _ _ F => F.binds fun _ _ _ _ _ _ us hl => match us, hl with | [_, _, _], _ => rfl)
  obtain ⟨D16, e16, d16⟩ := df_of c.t.d X G 16 16 (n := "check_hours") (st := s_check_hours) (ps := ["chart", "path", "tick", "box"]) rfl rfl (fun _ _ F => F.binds fun _ _ _ _ _ _ us hl => match us, hl with | [_, _, _, _], _ => rfl)
  obtain ⟨D17, e17, d17⟩ := df_of c.t.d X G 17 17 (n := "check_headway") (st := s_check_headway) (ps := ["path", "course", "rules", "winds", "tick", "box"]) rfl rfl (fun _ _ F => F.binds fun _ _ _ _ _ _ us hl => match us, hl with | [_, _, _, _, _, _], _ => rfl)
  obtain ⟨D18, e18, d18⟩ := df_of c.t.d X G 18 18 (n := "tube") (st := s_tube) (ps := ["chart", "path", "course", "kind", "rules", "winds", "tick", "box"]) rfl rfl (fun _ _ F => F.binds fun _ _ _ _ _ _ us hl => match us, hl with | [_, _, _, _, _, _, _, _], _ => rfl)
  obtain ⟨D19, e19, d19⟩ := df_of c.t.d X G 19 19 (n := "window") (st := s_window) (ps := ["path", "tick", "boxes"]) rfl rfl (fun _ _ F => F.binds fun _ _ _ _ _ _ us hl => match us, hl with | [_, _, _], _ => rfl)
  obtain ⟨D20, e20, d20⟩ := df_of c.t.d X G 20 20 (n := "landing_tick") (st := s_landing_tick) (ps := ["gaps", "arrival", "before"]) rfl rfl (fun _ _ F => F.binds fun _ _ _ _ _ _ us hl => match us, hl with | [_, _, _], _ => rfl)
  obtain ⟨D21, e21, d21⟩ := df_of c.t.d X G 21 21 (n := "natural_positions") (st := s_natural_positions) (ps := ["arrivals"]) rfl rfl (fun _ _ F => F.binds fun _ _ _ _ _ _ us hl => match us, hl with | [_], _ => rfl)
  obtain ⟨D22, e22, d22⟩ := df_of c.t.d X G 22 22 (n := "best_order") (st := s_best_order) (ps := ["gaps", "arrivals", "shift"]) rfl rfl (fun _ _ F => F.binds fun _ _ _ _ _ _ us hl => match us, hl with | [_, _, _], _ => rfl)
  obtain ⟨D23, e23, d23⟩ := df_of c.t.d X G 23 23 (n := "route_length") (st := s_route_length) (ps := ["chart", "route"]) rfl rfl (fun _ _ F => F.binds fun _ _ _ _ _ _ us hl => match us, hl with | [_, _], _ => rfl)
  obtain ⟨D24, e24, d24⟩ := df_of c.t.d X G 24 24 (n := "alternatives") (st := s_alternatives) (ps := ["chart", "start", "goal", "level", "count"]) rfl rfl (fun _ _ F => F.binds fun _ _ _ _ _ _ us hl => match us, hl with | [_, _, _, _, _], _ => rfl)
  obtain ⟨D25, e25, d25⟩ := df_of c.t.d X G 25 25 (n := "with_loops") (st := s_with_loops) (ps := ["chart", "route", "loops"]) rfl rfl (fun _ _ F => F.binds fun _ _ _ _ _ _ us hl => match us, hl with | [_, _, _], _ => rfl)
  obtain ⟨D26, e26, d26⟩ := df_of c.t.d X G 26 26 (n := "possible_routes") (st := s_possible_routes) (ps := ["chart", "request"]) rfl rfl (fun _ _ F => F.binds fun _ _ _ _ _ _ us hl => match us, hl with | [_, _], _ => rfl)
  obtain ⟨D27, e27, d27⟩ := df_of c.t.d X G 27 27 (n := "different") (st := s_different) (ps := ["first", "second"]) rfl rfl (fun _ _ F => F.binds fun _ _ _ _ _ _ us hl => match us, hl with | [_, _], _ => rfl)
  obtain ⟨D28, e28, d28⟩ := df_of c.t.d X G 28 28 (n := "menu") (st := s_menu) (ps := ["chart", "request"]) rfl rfl (fun _ _ F => F.binds fun _ _ _ _ _ _ us hl => match us, hl with | [_, _], _ => rfl)
  obtain ⟨D29, e29, d29⟩ := df_of c.t.d X G 29 29 (n := "first_entry") (st := s_first_entry) (ps := ["chart", "rules", "winds", "request"]) rfl rfl (fun _ _ F => F.binds fun _ _ _ _ _ _ us hl => match us, hl with | [_, _, _, _], _ => rfl)
  obtain ⟨D30, e30, d30⟩ := df_of c.t.d X G 30 30 (n := "sequenced") (st := s_sequenced) (ps := ["chart", "rules", "winds", "requests", "shift"]) rfl rfl (fun _ _ F => F.binds fun _ _ _ _ _ _ us hl => match us, hl with | [_, _, _, _, _], _ => rfl)
  obtain ⟨D31, e31, d31⟩ := df_of c.t.d X G 31 31 (n := "_law_start") (st := s_start) (ps := ["_law_script"]) rfl rfl (fun _ _ F => F.binds fun _ _ _ _ _ _ us hl => match us, hl with | [_], _ => rfl)
  obtain ⟨D32, e32, d32⟩ := df_of c.t.d X G 32 32 (n := "_law_draw") (st := s_draw) (ps := ["_law_state", "_law_bound"]) rfl rfl (fun _ _ F => F.binds fun _ _ _ _ _ _ us hl => match us, hl with | [_, _], _ => rfl)
  obtain ⟨D33, e33, d33⟩ := df_of c.t.d X G 33 33 (n := "_law_pick") (st := s_pick) (ps := ["_law_state", "_law_things"]) rfl rfl (fun _ _ F => F.binds fun _ _ _ _ _ _ us hl => match us, hl with | [_, _], _ => rfl)
  obtain ⟨D34, e34, d34⟩ := df_of c.t.d X G 34 34 (n := "_law_root_up") (st := s_law_root_up) (ps := ["_law_n"]) rfl rfl (fun _ _ F => F.binds fun _ _ _ _ _ _ us hl => match us, hl with | [_], _ => rfl)
  obtain ⟨D35, e35, d35⟩ := df_of c.t.d X G 35 35 (n := "_law_names") (st := s_names) (ps := ["_law_state", "_law_many"]) rfl rfl (fun _ _ F => F.binds fun _ _ _ _ _ _ us hl => match us, hl with | [_, _], _ => rfl)
  obtain ⟨D36, e36, d36⟩ := df_of c.t.d X G 36 36 (n := "_law_legs") (st := s_legs) (ps := ["_law_state", "_law_names_here"]) rfl rfl (fun _ _ F => F.binds fun _ _ _ _ _ _ us hl => match us, hl with | [_, _], _ => rfl)
  obtain ⟨D37, e37, d37⟩ := df_of c.t.d X G 37 37 (n := "_law_chart") (st := s_chart) (ps := ["_law_state", "_law_many", "_law_size"]) rfl rfl (fun _ _ F => F.binds fun _ _ _ _ _ _ us hl => match us, hl with | [_, _, _], _ => rfl)
  obtain ⟨D38, e38, d38⟩ := df_of c.t.d X G 38 38 (n := "_law_leg") (st := s_leg) (ps := ["_law_chart_here", "_law_start_here", "_law_end"]) rfl rfl (fun _ _ F => F.binds fun _ _ _ _ _ _ us hl => match us, hl with | [_, _, _], _ => rfl)
  obtain ⟨D39, e39, d39⟩ := df_of c.t.d X G 39 39 (n := "_law_lengths") (st := s_lengths) (ps := ["_law_chart_here"]) rfl rfl (fun _ _ F => F.binds fun _ _ _ _ _ _ us hl => match us, hl with | [_], _ => rfl)
  obtain ⟨D40, e40, d40⟩ := df_of c.t.d X G 40 40 (n := "_law_begins") (st := s_begins) (ps := ["_law_lengths_here", "_law_route"]) rfl rfl (fun _ _ F => F.binds fun _ _ _ _ _ _ us hl => match us, hl with | [_, _], _ => rfl)
  obtain ⟨D41, e41, d41⟩ := df_of c.t.d X G 41 41 (n := "_law_leg_at") (st := s_leg_at) (ps := ["_law_begins_here", "_law_progress"]) rfl rfl (fun _ _ F => F.binds fun _ _ _ _ _ _ us hl => match us, hl with | [_, _], _ => rfl)
  obtain ⟨D42, e42, d42⟩ := df_of c.t.d X G 42 42 (n := "_law_kind") (st := s_kind) (ps := ["_law_state"]) rfl rfl (fun _ _ F => F.binds fun _ _ _ _ _ _ us hl => match us, hl with | [_], _ => rfl)
  obtain ⟨D43, e43, d43⟩ := df_of c.t.d X G 43 43 (n := "_law_rules") (st := s_rules) (ps := ["_law_state"]) rfl rfl (fun _ _ F => F.binds fun _ _ _ _ _ _ us hl => match us, hl with | [_], _ => rfl)
  obtain ⟨D44, e44, d44⟩ := df_of c.t.d X G 44 44 (n := "_law_winds") (st := s_winds) (ps := ["_law_state"]) rfl rfl (fun _ _ F => F.binds fun _ _ _ _ _ _ us hl => match us, hl with | [_], _ => rfl)
  obtain ⟨D45, e45, d45⟩ := df_of c.t.d X G 45 45 (n := "_law_wind_at") (st := s_law_wind_at) (ps := ["_law_winds_here", "_law_tick"]) rfl rfl (fun _ _ F => F.binds fun _ _ _ _ _ _ us hl => match us, hl with | [_, _], _ => rfl)
  obtain ⟨D46, e46, d46⟩ := df_of c.t.d X G 46 46 (n := "_law_bounds") (st := s_bounds) (ps := ["_law_chart_here", "_law_route", "_law_begins_here", "_law_k", "_law_speed", "_law_slip", "_law_wind"]) rfl rfl (fun _ _ F => F.binds fun _ _ _ _ _ _ us hl => match us, hl with | [_, _, _, _, _, _, _], _ => rfl)
  obtain ⟨D47, e47, d47⟩ := df_of c.t.d X G 47 47 (n := "_law_target") (st := s_law_target) (ps := ["_law_chart_here", "_law_route", "_law_k", "_law_level"]) rfl rfl (fun _ _ F => F.binds fun _ _ _ _ _ _ us hl => match us, hl with | [_, _, _, _], _ => rfl)
  obtain ⟨D48, e48, d48⟩ := df_of c.t.d X G 48 48 (n := "_law_towards") (st := s_law_towards) (ps := ["_law_level", "_law_goal", "_law_rate"]) rfl rfl (fun _ _ F => F.binds fun _ _ _ _ _ _ us hl => match us, hl with | [_, _, _], _ => rfl)
  obtain ⟨D49, e49, d49⟩ := df_of c.t.d X G 49 49 (n := "_law_next") (st := s_law_next) (ps := ["_law_chart_here", "_law_route", "_law_begins_here", "_law_course", "_law_kind_here", "_law_rules_here", "_law_winds_here", "_law_tick", "_law_box"]) rfl rfl (fun _ _ F => F.binds fun _ _ _ _ _ _ us hl => match us, hl with | [_, _, _, _, _, _, _, _, _], _ => rfl)
  obtain ⟨D50, e50, d50⟩ := df_of c.t.d X G 50 50 (n := "_law_code") (st := s_code) (ps := ["_law_chart_here", "_law_route", "_law_begins_here", "_law_course", "_law_rules_here", "_law_winds_here", "_law_tick", "_law_box", "_law_many"]) rfl rfl (fun _ _ F => F.binds fun _ _ _ _ _ _ us hl => match us, hl with | [_, _, _, _, _, _, _, _, _], _ => rfl)
  obtain ⟨D51, e51, d51⟩ := df_of c.t.d X G 51 51 (n := "_law_tube") (st := s_law_tube) (ps := ["_law_chart_here", "_law_route", "_law_begins_here", "_law_course", "_law_kind_here", "_law_rules_here", "_law_winds_here", "_law_tick", "_law_box"]) rfl rfl (fun _ _ F => F.binds fun _ _ _ _ _ _ us hl => match us, hl with | [_, _, _, _, _, _, _, _, _], _ => rfl)
  obtain ⟨D52, e52, d52⟩ := df_of c.t.d X G 52 52 (n := "_law_request") (st := s_request) (ps := ["_law_state", "_law_chart_here", "_law_name"]) rfl rfl (fun _ _ F => F.binds fun _ _ _ _ _ _ us hl => match us, hl with | [_, _, _], _ => rfl)
  obtain ⟨D53, e53, d53⟩ := df_of c.t.d X G 53 53 (n := "_law_ready") (st := s_ready) (ps := ["_law_chart_here", "_law_lengths_here", "_law_rules_here", "_law_winds_here", "_law_request_here"]) rfl rfl (fun _ _ F => F.binds fun _ _ _ _ _ _ us hl => match us, hl with | [_, _, _, _, _], _ => rfl)
  obtain ⟨D54, e54, d54⟩ := df_of c.t.d X G 54 54 (n := "_law_orders") (st := s_orders) (ps := ["_law_many"]) rfl rfl (fun _ _ F => F.binds fun _ _ _ _ _ _ us hl => match us, hl with | [_], _ => rfl)
  obtain ⟨D55, e55, d55⟩ := df_of c.t.d X G 55 55 (n := "_law_ticks") (st := s_ticks) (ps := ["_law_gaps", "_law_arrivals", "_law_order"]) rfl rfl (fun _ _ F => F.binds fun _ _ _ _ _ _ us hl => match us, hl with | [_, _, _], _ => rfl)
  obtain ⟨D56, e56, d56⟩ := df_of c.t.d X G 56 56 (n := "_law_best") (st := s_best) (ps := ["_law_gaps", "_law_arrivals", "_law_shift"]) rfl rfl (fun _ _ F => F.binds fun _ _ _ _ _ _ us hl => match us, hl with | [_, _, _], _ => rfl)
  obtain ⟨D57, e57, d57⟩ := df_of c.t.d X G 57 57 (n := "_law_due") (st := s_due) (ps := ["_law_chart_here", "_law_lengths_here", "_law_rules_here", "_law_winds_here", "_law_requests", "_law_shift"]) rfl rfl (fun _ _ F => F.binds fun _ _ _ _ _ _ us hl => match us, hl with | [_, _, _, _, _, _], _ => rfl)
  obtain ⟨D58, e58, d58⟩ := df_of c.t.d X G 58 58 (n := "_law_found") (st := s_found) (ps := ["_law_chart_here", "_law_rules_here", "_law_winds_here", "_law_requests", "_law_shift"]) rfl rfl (fun _ _ F => F.binds fun _ _ _ _ _ _ us hl => match us, hl with | [_, _, _, _, _], _ => rfl)
  obtain ⟨D59, e59, d59⟩ := df_of c.t.d X G 59 59 (n := "law") (st := s_law) (ps := ["_law_script"]) rfl rfl (fun _ _ F => F.binds fun _ _ _ _ _ _ us hl => match us, hl with | [_], _ => rfl)
  obtain ⟨fdSearch0, FDSearch0⟩ := c.t.d.def_ 60 rfl
  have FSearch0 := fun_ofD (st := s_Search_init) FDSearch0
  have bSearch0 := FSearch0.binds (ps := ["self", "gaps", "arrivals", "shift"]) fun _ _ _ _ _ _ us hl => match us, hl with | [_, _, _, _], _ => rfl
  obtain ⟨fdSearch1, FDSearch1⟩ := c.t.d.def_ 61 rfl
  have FSearch1 := fun_ofD (st := s_Search_grow) FDSearch1
  have bSearch1 := FSearch1.binds (ps := ["self", "order", "before"]) fun _ _ _ _ _ _ us hl => match us, hl with | [_, _, _], _ => rfl
  obtain ⟨fdSearch2, FDSearch2⟩ := c.t.d.def_ 62 rfl
  have FSearch2 := fun_ofD (st := s_Search_is_worse) FDSearch2
  have bSearch2 := FSearch2.binds (ps := ["self", "tick"]) fun _ _ _ _ _ _ us hl => match us, hl with | [_, _], _ => rfl
  obtain ⟨fdPath0, FDPath0⟩ := c.t.d.def_ 63 rfl
  have FPath0 := fun_ofD (st := s_Path_init) FDPath0
  have bPath0 := FPath0.binds (ps := ["self", "chart", "route"]) fun _ _ _ _ _ _ us hl => match us, hl with | [_, _, _], _ => rfl
  obtain ⟨fdPath1, FDPath1⟩ := c.t.d.def_ 64 rfl
  have FPath1 := fun_ofD (st := s_Path_route) FDPath1
  have bPath1 := FPath1.binds (ps := ["self"]) fun _ _ _ _ _ _ us hl => match us, hl with | [_], _ => rfl
  obtain ⟨fdPath2, FDPath2⟩ := c.t.d.def_ 65 rfl
  have FPath2 := fun_ofD (st := s_Path_total) FDPath2
  have bPath2 := FPath2.binds (ps := ["self"]) fun _ _ _ _ _ _ us hl => match us, hl with | [_], _ => rfl
  obtain ⟨fdPath3, FDPath3⟩ := c.t.d.def_ 66 rfl
  have FPath3 := fun_ofD (st := s_Path_begin) FDPath3
  have bPath3 := FPath3.binds (ps := ["self", "index"]) fun _ _ _ _ _ _ us hl => match us, hl with | [_, _], _ => rfl
  obtain ⟨fdPath4, FDPath4⟩ := c.t.d.def_ 67 rfl
  have FPath4 := fun_ofD (st := s_Path_legs) FDPath4
  have bPath4 := FPath4.binds (ps := ["self"]) fun _ _ _ _ _ _ us hl => match us, hl with | [_], _ => rfl
  obtain ⟨fdPath5, FDPath5⟩ := c.t.d.def_ 68 rfl
  have FPath5 := fun_ofD (st := s_Path_leg) FDPath5
  have bPath5 := FPath5.binds (ps := ["self", "index"]) fun _ _ _ _ _ _ us hl => match us, hl with | [_, _], _ => rfl
  obtain ⟨fdPath6, FDPath6⟩ := c.t.d.def_ 69 rfl
  have FPath6 := fun_ofD (st := s_Path_leg_at) FDPath6
  have bPath6 := FPath6.binds (ps := ["self", "progress"]) fun _ _ _ _ _ _ us hl => match us, hl with | [_, _], _ => rfl
  obtain ⟨fdPath7, FDPath7⟩ := c.t.d.def_ 70 rfl
  have FPath7 := fun_ofD (st := s_Path_start) FDPath7
  have bPath7 := FPath7.binds (ps := ["self", "index"]) fun _ _ _ _ _ _ us hl => match us, hl with | [_, _], _ => rfl
  obtain ⟨fdPath8, FDPath8⟩ := c.t.d.def_ 71 rfl
  have FPath8 := fun_ofD (st := s_Path_vector) FDPath8
  have bPath8 := FPath8.binds (ps := ["self", "index"]) fun _ _ _ _ _ _ us hl => match us, hl with | [_, _], _ => rfl
  obtain ⟨fdPath9, FDPath9⟩ := c.t.d.def_ 72 rfl
  have FPath9 := fun_ofD (st := s_Path_on_leg) FDPath9
  have bPath9 := FPath9.binds (ps := ["self", "index", "progress"]) fun _ _ _ _ _ _ us hl => match us, hl with | [_, _, _], _ => rfl
  obtain ⟨fdPath10, FDPath10⟩ := c.t.d.def_ 73 rfl
  have FPath10 := fun_ofD (st := s_Path_place) FDPath10
  have bPath10 := FPath10.binds (ps := ["self", "progress"]) fun _ _ _ _ _ _ us hl => match us, hl with | [_, _], _ => rfl
  obtain ⟨fdPath11, FDPath11⟩ := c.t.d.def_ 74 rfl
  have FPath11 := fun_ofD (st := s_Path_piece) FDPath11
  have bPath11 := FPath11.binds (ps := ["self", "low", "high"]) fun _ _ _ _ _ _ us hl => match us, hl with | [_, _, _], _ => rfl
  obtain ⟨xd0⟩ := xd_of X G pM ⟨"RouteError", "RouteError.__init__", s_RouteError_init, ["code", "index"]⟩ (Option.some.inj (congrArg (fun l => l[0]?) ce)) (List.all_eq_true.mp (He.ba (He.ba (He.ba c.more).2).2).2 _ (List.mem_of_getElem? (i := 0) rfl)) (He.free_ok X G (c.t.d.fact 104 (f := .free "super") rfl)) rfl (fun kV dc pmV an cda ct cc => .all fun us hl => match us, hl with | [_, _, _], _ => rfl)
  obtain ⟨xd1⟩ := xd_of X G pM ⟨"CourseError", "CourseError.__init__", s_CourseError_init, ["code", "tick"]⟩ (Option.some.inj (congrArg (fun l => l[1]?) ce)) (List.all_eq_true.mp (He.ba (He.ba (He.ba c.more).2).2).2 _ (List.mem_of_getElem? (i := 1) rfl)) (He.free_ok X G (c.t.d.fact 104 (f := .free "super") rfl)) rfl (fun kV dc pmV an cda ct cc => .all fun us hl => match us, hl with | [_, _, _], _ => rfl)
  obtain ⟨xd2⟩ := xd_of X G pM ⟨"SequenceError", "SequenceError.__init__", s_SequenceError_init, ["code"]⟩ (Option.some.inj (congrArg (fun l => l[2]?) ce)) (List.all_eq_true.mp (He.ba (He.ba (He.ba c.more).2).2).2 _ (List.mem_of_getElem? (i := 2) rfl)) (He.free_ok X G (c.t.d.fact 104 (f := .free "super") rfl)) rfl (fun kV dc pmV an cda ct cc => .all fun us hl => match us, hl with | [_, _], _ => rfl)
  let N : Nm K mg := ⟨D0, D1, D2, D3, D4, D5, D6, D7, D8, D9, D10, D11, D12, D13, D14, D15, D16, D17, D18, D19, D20, D21, D22, D23, D24, D25, D26, D27, D28, D29, D30, D31, D32, D33, D34, D35, D36, D37, D38, D39, D40, D41, D42, D43, D44, D45, D46, D47, D48, D49, D50, D51, D52, D53, D54, D55, D56, D57, D58, D59, ⟨_, (He.cT K ("route_length", none)).2, e23⟩, He.ga K "Search", ⟨He.cls_ok (c.t.d.fact 61 rfl), fun f hf => by
    simp only [List.mem_cons, List.not_mem_nil, or_false] at hf
    rcases hf with e | e | e | e | e <;> subst e
    · exact He.noat_ok (c.t.d.fact 62 rfl)
    · exact He.noat_ok (c.t.d.fact 63 rfl)
    · exact He.noat_ok (c.t.d.fact 64 rfl)
    · exact He.noat_ok (c.t.d.fact 65 rfl)
    · exact He.noat_ok (c.t.d.fact 66 rfl)⟩, ⟨_, _, FSearch0, He.glo_ok X G (c.t.d.fact 60 (f := .glo "Search") rfl), He.mkr_ok (c.t.d.fact 67 rfl), bSearch0⟩, ⟨_, _, FSearch1, He.meth_ok (c.t.d.fact 68 rfl), bSearch1⟩, ⟨_, _, FSearch2, He.meth_ok (c.t.d.fact 69 rfl), bSearch2⟩, He.ga K "Path", ⟨He.cls_ok (c.t.d.fact 71 rfl), fun f hf => by
    simp only [List.mem_cons, List.not_mem_nil, or_false] at hf
    rcases hf with e | e | e | e <;> subst e
    · exact He.noat_ok (c.t.d.fact 72 rfl)
    · exact He.noat_ok (c.t.d.fact 73 rfl)
    · exact He.noat_ok (c.t.d.fact 74 rfl)
    · exact He.noat_ok (c.t.d.fact 75 rfl)⟩, ⟨_, _, FPath0, He.glo_ok X G (c.t.d.fact 70 (f := .glo "Path") rfl), He.mkr_ok (c.t.d.fact 76 rfl), bPath0⟩, ⟨_, _, FPath1, He.meth_ok (c.t.d.fact 77 rfl), bPath1⟩, ⟨_, _, FPath2, He.meth_ok (c.t.d.fact 78 rfl), bPath2⟩, ⟨_, _, FPath3, He.meth_ok (c.t.d.fact 79 rfl), bPath3⟩, ⟨_, _, FPath4, He.meth_ok (c.t.d.fact 80 rfl), bPath4⟩, ⟨_, _, FPath5, He.meth_ok (c.t.d.fact 81 rfl), bPath5⟩, ⟨_, _, FPath6, He.meth_ok (c.t.d.fact 82 rfl), bPath6⟩, ⟨_, _, FPath7, He.meth_ok (c.t.d.fact 83 rfl), bPath7⟩, ⟨_, _, FPath8, He.meth_ok (c.t.d.fact 84 rfl), bPath8⟩, ⟨_, _, FPath9, He.meth_ok (c.t.d.fact 85 rfl), bPath9⟩, ⟨_, _, FPath10, He.meth_ok (c.t.d.fact 86 rfl), bPath10⟩, ⟨_, _, FPath11, He.meth_ok (c.t.d.fact 87 rfl), bPath11⟩, He.ga K "RouteError", xd0, He.ga K "CourseError", xd1, He.ga K "SequenceError", xd2, kc_ok X G (He.ba (He.ba c.more).2).1, kc_ok X G (He.ba (He.ba (He.ba c.more).2).2).1⟩
  have T : Bt mg := ⟨He.free_ok X G (c.t.d.fact 88 (f := .free "ValueError") rfl), He.free_ok X G (c.t.d.fact 89 (f := .free "min") rfl), He.free_ok X G (c.t.d.fact 90 (f := .free "max") rfl), He.free_ok X G (c.t.d.fact 91 (f := .free "range") rfl), He.free_ok X G (c.t.d.fact 92 (f := .free "list") rfl), He.free_ok X G (c.t.d.fact 93 (f := .free "enumerate") rfl), He.free_ok X G (c.t.d.fact 94 (f := .free "sorted") rfl), He.free_ok X G (c.t.d.fact 95 (f := .free "sum") rfl), He.free_ok X G (c.t.d.fact 96 (f := .free "len") rfl), He.free_ok X G (c.t.d.fact 97 (f := .free "tuple") rfl), He.free_ok X G (c.t.d.fact 98 (f := .free "zip") rfl), He.free_ok X G (c.t.d.fact 99 (f := .free "int") rfl), He.free_ok X G (c.t.d.fact 100 (f := .free "isinstance") rfl), He.free_ok X G (c.t.d.fact 101 (f := .free "bool") rfl), He.free_ok X G (c.t.d.fact 102 (f := .free "any") rfl), He.free_ok X G (c.t.d.fact 103 (f := .free "abs") rfl), He.free_ok X G (c.t.d.fact 104 (f := .free "super") rfl), He.free_ok X G (c.t.d.fact 105 (f := .free "str") rfl), He.int_ok X G (c.t.d.fact 106 (f := .int "LONGEST_TUBE" 240) rfl), He.int_ok X G (c.t.d.fact 107 (f := .int "MOST_NAMES" 16) rfl), He.int_ok X G (c.t.d.fact 108 (f := .int "MOST_SIMPLE" 8) rfl), trivial, He.int_ok X G (c.t.d.fact 109 (f := .int "ROUTES" 2) rfl), trivial, He.int_ok X G (c.t.d.fact 110 (f := .int "PATIENCE" 100) rfl), bi_25 X G (He.ba c.more).1⟩
  have ef : f = D59.f := by
    have z := hfa.symm.trans D59.m
    injection z with z
    injection z
  subst ef
  have b := FunD.bindsA (ps := ["_law_script"]) d59 fun _ _ _ _ _ _ us hl => match us, hl with | [_], _ => rfl
  refine ⟨K, D59.fd, ([("route_length", none)] : List (Str × Option Str)).map (He.cT K), X, fun p hp => by
    obtain ⟨z, hz, e⟩ := List.mem_map.mp hp
    rw [← e]
    exact c.empty z hz, fun p hp => by
    obtain ⟨z, hz, e⟩ := List.mem_map.mp hp
    rw [← e]
    exact c.out z hz, fun p hp => by
    obtain ⟨z, hz, e⟩ := List.mem_map.mp hp
    rw [← e]
    exact c.hd z hz, fun s v => b s [v] rfl, fun base _ _ tb => ok_law N T hP ⟨tb (He.cT K ("route_length", none)) (List.mem_map.mpr ⟨_, by simp, rfl⟩)⟩⟩
end Law
open PySem PySem.W PyProof.Rows
set_option maxRecDepth 100000 in
set_option maxHeartbeats 0 in
theorem PySem.Challenge.cw_skyapart_k37_sequences_of_arrivals_holds : PySem.Challenge.rw_skyapart_k37_sequences_of_arrivals.Holds := by
  w_on; o_law
  o_head (Sk.hookL Law.asL Law.faL Law.fnL [] [("route_length", none)] Law.exB Law.xcL); (case hw => w_witness2)
  refine Sk.walk_tabsE (l := PySem.Challenge.rw_skyapart_k37_sequences_of_arrivals) (k := 16) (x := "_law_script") rfl rfl ⟨rfl, by decide, by decide⟩ ?F
  case F =>
    intro w mg fa h Y G hmg
    obtain ⟨K, KX, c, ce⟩ := Y
    exact Law.facts rfl KX G hmg c ce
